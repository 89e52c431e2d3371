import Derived.Test.YtkiadljldlppbaaGreatDoorZAL
set_option linter.unusedVariables false
set_option linter.unusedSimpArgs false
section
namespace Go.Proofs.T
open Go Go.AM Go.Proofs
set_option maxRecDepth 20000
variable {Γ : List (Nat × List AVal)}
theorem and1_eq {x : Int} (h1 : 0 ≤ x) (h2 : x < 18446744073709551616) : IntKind.u64.wrap ((BitVec.ofInt IntKind.u64.bits x &&& BitVec.ofInt IntKind.u64.bits 1).toNat : Int) = x % 2 := by
  obtain ⟨n, rfl⟩ : ∃ n : Nat, x = (n : Int) := ⟨x.toNat, by omega⟩
  have e1 : (BitVec.ofInt IntKind.u64.bits (n : Int) &&& BitVec.ofInt IntKind.u64.bits 1).toNat = n % 2 := by
    rw [BitVec.toNat_and]
    have a : (BitVec.ofInt IntKind.u64.bits (n : Int)).toNat = n := by
      show (BitVec.ofInt 64 (n : Int)).toNat = n
      rw [BitVec.ofInt_natCast, BitVec.toNat_ofNat]
      exact Nat.mod_eq_of_lt (by omega)
    have b : (BitVec.ofInt IntKind.u64.bits 1).toNat = 1 := by decide
    rw [a, b, Nat.and_one_is_mod]
  rw [e1]
  exact wrap_u64 (by omega) (by omega)
theorem mask_bit {x : Int} {c : Int} (h1 : 0 ≤ x) (h2 : x < 18446744073709551616) (h3 : 0 ≤ c) (h4 : c < 64) : IntKind.u64.wrap ((BitVec.ofInt IntKind.u64.bits (x.fdiv (2 ^ min c.toNat 64)) &&& BitVec.ofInt IntKind.u64.bits 1).toNat : Int) = x / 2 ^ c.toNat % 2 := by
  rw [show min c.toNat 64 = c.toNat by omega, Int.fdiv_eq_ediv_of_nonneg _ (Int.pow_nonneg (by omega))]
  have h5 : 0 ≤ x / 2 ^ c.toNat := Int.ediv_nonneg h1 (Int.pow_nonneg (by omega))
  have h6 : x / 2 ^ c.toNat ≤ x := Int.ediv_le_self _ h1
  exact and1_eq h5 (by omega)
set_option maxHeartbeats 8000000 in
theorem migrate (L : LSt) (n : Nat) (hS : Rt0 L n) (o : Opn) (m tk k : Nat) (hm : m + 6 + L.sl.length ≤ tk) (hk : tk < k) : OpOk Γ 38 L n o m tk k := by
  have hnt := hS.nt
  have hcp := hS.cpus
  have hnu := hS.nu
  have hn64 := hS.n64
  have hcpu := cpu L o.to m tk (k + 1) hm (by omega) (Γ := Γ)
  have htask := mtask o.task (Γ := Γ)
  by_cases h1 : 0 ≤ o.to ∧ o.to < L.cpus
  rotate_left
  · rw [decide_eq_false h1] at hcpu
    refine ⟨L, 0, 300, tk, k, hS, ⟨Fwd.refl L, .inr rfl⟩, hm, ⟨hk, .inl rfl⟩, Nat.le_refl _, ?_⟩
    obtain ⟨RH, eRH⟩ : ∃ x : Heap, x = MH m tk L := ⟨_, rfl⟩; obtain ⟨RV, eRV⟩ : ∃ x : AVal, x = res2 0 300 := ⟨_, rfl⟩; refine Tr.mono (Tr_in (k := k) (V := RV) (RH := RH) (by omega) (by rw [eRV]; rfl) (by rw [eRH]; exact MH_lt (by omega) (by omega)) ?_) (fun _ _ _ h => ⟨h.1, h.2.1.trans eRV, h.2.2.trans eRH⟩)
    refine Tr_at Tryz.func38 rfl 67 rfl (Nat.le_of_ble_eq_true rfl) ?_
    simp only [MH, LH]
    have kp : Kp [0,1,3,4,5,6,7,13,22,25,34,47] (fun i => i - k) := kpI
    refine wlL ?_ <;> and_intros <;> first | exact hdT | (apply zM; (repeat intro ht); apply zM; (repeat intro hg); apply zM)
    refine clL [.far (.lit (.bool false)) (k + 1) [(k, ⟨8, true, [opc o]⟩)] (MH m tk L) (MH m tk L)] ?_ <;> and_intros <;> first | exact hdT | (apply zM; (repeat intro ht); apply zM; (repeat intro hg); apply zM)
    · intro q; simp only [MH, LH, mrow, opc, List.cons_append, List.nil_append]
    · exact MH_apart (fun i hi => by simp only [AM.look]; repeat (rw [if_neg (by omega)])) rfl
    simp only [MH, LH]
    refine rRL ?_ <;> first | exact hdT | apply zN
    refine wlL ?_ <;> and_intros <;> first | exact hdT | (apply zM; (repeat intro ht); apply zM; (repeat intro hg); apply zM)
    refine C_ret rfl ?_; simp -dsimp -implicitDefEqProofs (disch := omega) only [go_sem, nq0, eq_self, ↓reduceIte]; refine ⟨_, rfl, ?_⟩
    refine ⟨?_, ?_⟩
    · rw [eRV]; rfl
    · rw [eRH]
      simp only [MH, LH]
      refine rRL ?_ <;> first | exact hdT | apply zN
  rw [decide_eq_true h1] at hcpu
  by_cases h2 : 1 ≤ o.task ∧ o.task ≤ 65535
  rotate_left
  · rw [decide_eq_false h2] at htask
    refine ⟨L, 0, 301, tk, k, hS, ⟨Fwd.refl L, .inr rfl⟩, hm, ⟨hk, .inl rfl⟩, Nat.le_refl _, ?_⟩
    obtain ⟨RH, eRH⟩ : ∃ x : Heap, x = MH m tk L := ⟨_, rfl⟩; obtain ⟨RV, eRV⟩ : ∃ x : AVal, x = res2 0 301 := ⟨_, rfl⟩; refine Tr.mono (Tr_in (k := k) (V := RV) (RH := RH) (by omega) (by rw [eRV]; rfl) (by rw [eRH]; exact MH_lt (by omega) (by omega)) ?_) (fun _ _ _ h => ⟨h.1, h.2.1.trans eRV, h.2.2.trans eRH⟩)
    refine Tr_at Tryz.func38 rfl 67 rfl (Nat.le_of_ble_eq_true rfl) ?_
    simp only [MH, LH]
    have kp : Kp [0,1,3,4,5,6,7,13,22,25,34,47] (fun i => i - k) := kpI
    refine wlL ?_ <;> and_intros <;> first | exact hdT | (apply zM; (repeat intro ht); apply zM; (repeat intro hg); apply zM)
    refine clL [.far (.lit (.bool true)) (k + 1) [(k, ⟨8, true, [opc o]⟩)] (MH m tk L) (MH m tk L)] ?_ <;> and_intros <;> first | exact hdT | (apply zM; (repeat intro ht); apply zM; (repeat intro hg); apply zM)
    · intro q; simp only [MH, LH, mrow, opc, List.cons_append, List.nil_append]
    · exact MH_apart (fun i hi => by simp only [AM.look]; repeat (rw [if_neg (by omega)])) rfl
    simp only [MH, LH]
    refine rRL ?_ <;> first | exact hdT | apply zN
    refine wlL ?_ <;> and_intros <;> first | exact hdT | (apply zM; (repeat intro ht); apply zM; (repeat intro hg); apply zM)
    refine clL [.ret (.lit (.bool false))] ?_ <;> and_intros <;> first | exact hdT | (apply zM; (repeat intro ht); apply zM; (repeat intro hg); apply zM)
    refine wlL ?_ <;> and_intros <;> first | exact hdT | (apply zM; (repeat intro ht); apply zM; (repeat intro hg); apply zM)
    refine C_ret rfl ?_; simp -dsimp -implicitDefEqProofs (disch := omega) only [go_sem, nq0, eq_self, ↓reduceIte]; refine ⟨_, rfl, ?_⟩
    refine ⟨?_, ?_⟩
    · rw [eRV]; rfl
    · rw [eRH]
      simp only [MH, LH]
      refine rRL ?_ <;> first | exact hdT | apply zN
  rw [decide_eq_true h2] at htask
  rcases find_cases hS o.task with hr | ⟨i, hi, hid, hr⟩
  · have hfc := find L o.task (-1) hr hS.sorted (by omega) m tk (k + 1) hm (by omega) (Γ := Γ)
    refine ⟨L, 0, 6, tk, k, hS, ⟨Fwd.refl L, .inr rfl⟩, hm, ⟨hk, .inl rfl⟩, Nat.le_refl _, ?_⟩
    obtain ⟨RH, eRH⟩ : ∃ x : Heap, x = MH m tk L := ⟨_, rfl⟩; obtain ⟨RV, eRV⟩ : ∃ x : AVal, x = res2 0 6 := ⟨_, rfl⟩; refine Tr.mono (Tr_in (k := k) (V := RV) (RH := RH) (by omega) (by rw [eRV]; rfl) (by rw [eRH]; exact MH_lt (by omega) (by omega)) ?_) (fun _ _ _ h => ⟨h.1, h.2.1.trans eRV, h.2.2.trans eRH⟩)
    refine Tr_at Tryz.func38 rfl 67 rfl (Nat.le_of_ble_eq_true rfl) ?_
    simp only [MH, LH]
    have kp : Kp [0,1,3,4,5,6,7,13,22,25,34,47] (fun i => i - k) := kpI
    refine wlL ?_ <;> and_intros <;> first | exact hdT | (apply zM; (repeat intro ht); apply zM; (repeat intro hg); apply zM)
    refine clL [.far (.lit (.bool true)) (k + 1) [(k, ⟨8, true, [opc o]⟩)] (MH m tk L) (MH m tk L)] ?_ <;> and_intros <;> first | exact hdT | (apply zM; (repeat intro ht); apply zM; (repeat intro hg); apply zM)
    · intro q; simp only [MH, LH, mrow, opc, List.cons_append, List.nil_append]
    · exact MH_apart (fun i hi => by simp only [AM.look]; repeat (rw [if_neg (by omega)])) rfl
    simp only [MH, LH]
    refine rRL ?_ <;> first | exact hdT | apply zN
    refine wlL ?_ <;> and_intros <;> first | exact hdT | (apply zM; (repeat intro ht); apply zM; (repeat intro hg); apply zM)
    refine clL [.ret (.lit (.bool true))] ?_ <;> and_intros <;> first | exact hdT | (apply zM; (repeat intro ht); apply zM; (repeat intro hg); apply zM)
    refine wlL ?_ <;> and_intros <;> first | exact hdT | (apply zM; (repeat intro ht); apply zM; (repeat intro hg); apply zM)
    refine clL [.far (.lit (.int .i64 (-1))) (k + 1) [(k, ⟨8, true, [opc o]⟩)] (MH m tk L) (MH m tk L)] ?_ <;> and_intros <;> first | exact hdT | (apply zM; (repeat intro ht); apply zM; (repeat intro hg); apply zM)
    · intro q; simp only [MH, LH, mrow, opc, List.cons_append, List.nil_append]
    · exact MH_apart (fun i hi => by simp only [AM.look]; repeat (rw [if_neg (by omega)])) rfl
    simp only [MH, LH]
    refine rRL ?_ <;> first | exact hdT | apply zN
    refine wlL ?_ <;> and_intros <;> first | exact hdT | (apply zM; (repeat intro ht); apply zM; (repeat intro hg); apply zM)
    refine C_ret rfl ?_; simp -dsimp -implicitDefEqProofs (disch := omega) only [go_sem, nq0, eq_self, ↓reduceIte]; refine ⟨_, rfl, ?_⟩
    refine ⟨?_, ?_⟩
    · rw [eRV]; rfl
    · rw [eRH]
      simp only [MH, LH]
      refine rRL ?_ <;> first | exact hdT | apply zN
  have hfc := find L o.task i hr hS.sorted (by omega) m tk (k + 1) hm (by omega) (Γ := Γ)
  obtain ⟨b, hb, hbp⟩ := containsP L o.task (by omega) (Γ := Γ)
  obtain ⟨to, hto⟩ : ∃ to : Nat, o.to = (to : Int) := ⟨o.to.toNat, by omega⟩
  obtain ⟨NM, eNM⟩ : ∃ x, x = [m + 3] := ⟨_, rfl⟩
  have hlend : ∀ {o' : Oper} {ev : Operand → Option AVal} {f : Operand} {args : Array Operand} {ty : Array TypeId} {B0 : Blk} (ho : o'.op = .call { callee := .value f, args := args, argTypes := ty }) (hg : callable Tryz.prog 82 = true) (hf : ev f = some (.fn 82 [])) (ha : evArgs ev args.toList = some [.sl (m + 3) 0 L.ul.length, .lit (.int .i64 o.task)]),
      AM.Good Tryz.prog Γ o' ev (AM.look ((k, B0) :: MH m tk L)) (k + 1) ⟨.lit (.bool b), k + 1, [], [m + 3]⟩ := fun {o'} {ev} {f} {args} {ty} {B0} ho hg hf ha =>
    ro_good (Hc := [(m + 3, ⟨1, true, ulR L⟩)]) ho hg hf ha (.cons (bor_sl (B := ⟨1, true, ulR L⟩) (by simp [AM.look]) (by rw [ulR_len]; exact Nat.le_refl _) (fun _ _ => rfl) fun j hj => ⟨_, ulR_get hj, bor_lits rfl⟩) (.cons Bor.lit .nil)) (fun id B h => by
      simp only [AM.look] at h
      split at h
      · rename_i e; subst e; cases h
        simp only [MH, LH, AM.look]
        repeat (first | rw [if_neg (by omega)] | rw [if_pos trivial])
      · cases h) rfl hbp
  cases hbb : b with
  | true =>
    rw [hbb] at hlend
    refine ⟨L, 0, 304, tk, k, hS, ⟨Fwd.refl L, .inr rfl⟩, hm, ⟨hk, .inl rfl⟩, Nat.le_refl _, ?_⟩
    obtain ⟨RH, eRH⟩ : ∃ x : Heap, x = MH m tk L := ⟨_, rfl⟩; obtain ⟨RV, eRV⟩ : ∃ x : AVal, x = res2 0 304 := ⟨_, rfl⟩; refine Tr.mono (Tr_in (k := k) (V := RV) (RH := RH) (by omega) (by rw [eRV]; rfl) (by rw [eRH]; exact MH_lt (by omega) (by omega)) ?_) (fun _ _ _ h => ⟨h.1, h.2.1.trans eRV, h.2.2.trans eRH⟩)
    refine Tr_at Tryz.func38 rfl 67 rfl (Nat.le_of_ble_eq_true rfl) ?_
    simp only [MH, LH]
    have kp : Kp [0,1,3,4,5,6,7,13,22,25,34,47] (fun i => i - k) := kpI
    refine wlL ?_ <;> and_intros <;> first | exact hdT | (apply zM; (repeat intro ht); apply zM; (repeat intro hg); apply zM)
    refine clL [.far (.lit (.bool true)) (k + 1) [(k, ⟨8, true, [opc o]⟩)] (MH m tk L) (MH m tk L)] ?_ <;> and_intros <;> first | exact hdT | (apply zM; (repeat intro ht); apply zM; (repeat intro hg); apply zM)
    · intro q; simp only [MH, LH, mrow, opc, List.cons_append, List.nil_append]
    · exact MH_apart (fun i hi => by simp only [AM.look]; repeat (rw [if_neg (by omega)])) rfl
    simp only [MH, LH]
    refine rRL ?_ <;> first | exact hdT | apply zN
    refine wlL ?_ <;> and_intros <;> first | exact hdT | (apply zM; (repeat intro ht); apply zM; (repeat intro hg); apply zM)
    refine clL [.ret (.lit (.bool true))] ?_ <;> and_intros <;> first | exact hdT | (apply zM; (repeat intro ht); apply zM; (repeat intro hg); apply zM)
    refine wlL ?_ <;> and_intros <;> first | exact hdT | (apply zM; (repeat intro ht); apply zM; (repeat intro hg); apply zM)
    refine clL [.far (.lit (.int .i64 (i : Int))) (k + 1) [(k, ⟨8, true, [opc o]⟩)] (MH m tk L) (MH m tk L)] ?_ <;> and_intros <;> first | exact hdT | (apply zM; (repeat intro ht); apply zM; (repeat intro hg); apply zM)
    · intro q; simp only [MH, LH, mrow, opc, List.cons_append, List.nil_append]
    · exact MH_apart (fun i hi => by simp only [AM.look]; repeat (rw [if_neg (by omega)])) rfl
    simp only [MH, LH]
    refine rRL ?_ <;> first | exact hdT | apply zN
    have kp : Kp [0,1,3,4,5,6,7,13,22,25,34,47] (fun i => if k ≤ i then i - k + 1 else 0) := kpI
    refine wlL ?_ <;> and_intros <;> first | exact hdT | (apply zM; (repeat intro ht); apply zM; (repeat intro hg); apply zM)
    refine dlL [.raw (some 33) ⟨.lit (.bool true), k + 1, [], [m + 3]⟩] ?_ <;> and_intros <;> first | exact hdT | (apply zM; (repeat intro ht); apply zM; (repeat intro hg); apply zM)
    · exact hlend rfl (by kernel_rfl) rfl rfl
    refine wlL ?_ <;> and_intros <;> first | exact hdT | (apply zM; (repeat intro ht); apply zM; (repeat intro hg); apply zM)
    refine C_ret rfl ?_; simp -dsimp -implicitDefEqProofs (disch := omega) only [go_sem, nq0, eq_self, ↓reduceIte]; refine ⟨_, rfl, ?_⟩
    refine ⟨?_, ?_⟩
    · rw [eRV]; rfl
    · rw [eRH]
      simp only [MH, LH]
      refine rRL ?_ <;> first | exact hdT | apply zN
  | false =>
    rw [hbb] at hlend
    have hnc : ∀ c, c < n → L.cur c ≠ o.task := fun c hc e => by have := hb.2 ⟨c, by omega, e⟩; rw [hbb] at this; cases this
    by_cases h5 : (L.tsk i).cpu = o.to
    · refine ⟨L, 0, 2, tk, k, hS, ⟨Fwd.refl L, .inr rfl⟩, hm, ⟨hk, .inl rfl⟩, Nat.le_refl _, ?_⟩
      obtain ⟨RH, eRH⟩ : ∃ x : Heap, x = MH m tk L := ⟨_, rfl⟩; obtain ⟨RV, eRV⟩ : ∃ x : AVal, x = res2 0 2 := ⟨_, rfl⟩; refine Tr.mono (Tr_in (k := k) (V := RV) (RH := RH) (by omega) (by rw [eRV]; rfl) (by rw [eRH]; exact MH_lt (by omega) (by omega)) ?_) (fun _ _ _ h => ⟨h.1, h.2.1.trans eRV, h.2.2.trans eRH⟩)
      refine Tr_at Tryz.func38 rfl 67 rfl (Nat.le_of_ble_eq_true rfl) ?_
      simp only [MH, LH]
      have kp : Kp [0,1,3,4,5,6,7,13,22,25,34,47] (fun i => if k ≤ i then i - k + 1 else 0) := kpI
      refine wlL ?_ <;> and_intros <;> first | exact hdT | (apply zM; (repeat intro ht); apply zM; (repeat intro hg); apply zM)
      refine clL [.far (.lit (.bool true)) (k + 1) [(k, ⟨8, true, [opc o]⟩)] (MH m tk L) (MH m tk L)] ?_ <;> and_intros <;> first | exact hdT | (apply zM; (repeat intro ht); apply zM; (repeat intro hg); apply zM)
      · intro q; simp only [MH, LH, mrow, opc, List.cons_append, List.nil_append]
      · exact MH_apart (fun i hi => by simp only [AM.look]; repeat (rw [if_neg (by omega)])) rfl
      simp only [MH, LH]
      refine rRL ?_ <;> first | exact hdT | apply zN
      refine wlL ?_ <;> and_intros <;> first | exact hdT | (apply zM; (repeat intro ht); apply zM; (repeat intro hg); apply zM)
      refine clL [.ret (.lit (.bool true))] ?_ <;> and_intros <;> first | exact hdT | (apply zM; (repeat intro ht); apply zM; (repeat intro hg); apply zM)
      refine wlL ?_ <;> and_intros <;> first | exact hdT | (apply zM; (repeat intro ht); apply zM; (repeat intro hg); apply zM)
      refine clL [.far (.lit (.int .i64 (i : Int))) (k + 1) [(k, ⟨8, true, [opc o]⟩)] (MH m tk L) (MH m tk L)] ?_ <;> and_intros <;> first | exact hdT | (apply zM; (repeat intro ht); apply zM; (repeat intro hg); apply zM)
      · intro q; simp only [MH, LH, mrow, opc, List.cons_append, List.nil_append]
      · exact MH_apart (fun i hi => by simp only [AM.look]; repeat (rw [if_neg (by omega)])) rfl
      simp only [MH, LH]
      refine rRL ?_ <;> first | exact hdT | apply zN
      refine wlL ?_ <;> and_intros <;> first | exact hdT | (apply zM; (repeat intro ht); apply zM; (repeat intro hg); apply zM)
      refine dlL [.raw (some 33) ⟨.lit (.bool false), k + 1, [], [m + 3]⟩] ?_ <;> and_intros <;> first | exact hdT | (apply zM; (repeat intro ht); apply zM; (repeat intro hg); apply zM)
      · exact hlend rfl (by kernel_rfl) rfl rfl
      refine wlL ?_ <;> and_intros <;> first | exact hdT | (apply zM; (repeat intro ht); apply zM; (repeat intro hg); apply zM)
      refine C_ret rfl ?_; simp -dsimp -implicitDefEqProofs (disch := omega) only [go_sem, nq0, eq_self, ↓reduceIte]; refine ⟨_, rfl, ?_⟩
      refine ⟨?_, ?_⟩
      · rw [eRV]; rfl
      · rw [eRH]
        simp only [MH, LH]
        refine rRL ?_ <;> first | exact hdT | apply zN
    have hT := hS.tk i hi
    have hmb := mask_bit (x := (L.tsk i).mask) (c := o.to) hT.m0 hT.m1 h1.1 (by omega)
    have hneg : (o.to < 0) = False := eq_false (by omega)
    by_cases h6 : (L.tsk i).mask / 2 ^ o.to.toNat % 2 = 0
    · refine ⟨L, 0, 305, tk, k, hS, ⟨Fwd.refl L, .inr rfl⟩, hm, ⟨hk, .inl rfl⟩, Nat.le_refl _, ?_⟩
      obtain ⟨RH, eRH⟩ : ∃ x : Heap, x = MH m tk L := ⟨_, rfl⟩; obtain ⟨RV, eRV⟩ : ∃ x : AVal, x = res2 0 305 := ⟨_, rfl⟩; refine Tr.mono (Tr_in (k := k) (V := RV) (RH := RH) (by omega) (by rw [eRV]; rfl) (by rw [eRH]; exact MH_lt (by omega) (by omega)) ?_) (fun _ _ _ h => ⟨h.1, h.2.1.trans eRV, h.2.2.trans eRH⟩)
      refine Tr_at Tryz.func38 rfl 67 rfl (Nat.le_of_ble_eq_true rfl) ?_
      simp only [MH, LH]
      have kp : Kp [0,1,3,4,5,6,7,13,22,25,34,47] (fun i => if k ≤ i then i - k + 1 else 0) := kpI
      refine wlL ?_ <;> and_intros <;> first | exact hdT | (apply zM; (repeat intro ht); apply zM; (repeat intro hg); apply zM)
      refine clL [.far (.lit (.bool true)) (k + 1) [(k, ⟨8, true, [opc o]⟩)] (MH m tk L) (MH m tk L)] ?_ <;> and_intros <;> first | exact hdT | (apply zM; (repeat intro ht); apply zM; (repeat intro hg); apply zM)
      · intro q; simp only [MH, LH, mrow, opc, List.cons_append, List.nil_append]
      · exact MH_apart (fun i hi => by simp only [AM.look]; repeat (rw [if_neg (by omega)])) rfl
      simp only [MH, LH]
      refine rRL ?_ <;> first | exact hdT | apply zN
      refine wlL ?_ <;> and_intros <;> first | exact hdT | (apply zM; (repeat intro ht); apply zM; (repeat intro hg); apply zM)
      refine clL [.ret (.lit (.bool true))] ?_ <;> and_intros <;> first | exact hdT | (apply zM; (repeat intro ht); apply zM; (repeat intro hg); apply zM)
      refine wlL ?_ <;> and_intros <;> first | exact hdT | (apply zM; (repeat intro ht); apply zM; (repeat intro hg); apply zM)
      refine clL [.far (.lit (.int .i64 (i : Int))) (k + 1) [(k, ⟨8, true, [opc o]⟩)] (MH m tk L) (MH m tk L)] ?_ <;> and_intros <;> first | exact hdT | (apply zM; (repeat intro ht); apply zM; (repeat intro hg); apply zM)
      · intro q; simp only [MH, LH, mrow, opc, List.cons_append, List.nil_append]
      · exact MH_apart (fun i hi => by simp only [AM.look]; repeat (rw [if_neg (by omega)])) rfl
      simp only [MH, LH]
      refine rRL ?_ <;> first | exact hdT | apply zN
      refine wlL ?_ <;> and_intros <;> first | exact hdT | (apply zM; (repeat intro ht); apply zM; (repeat intro hg); apply zM)
      refine dlL [.raw (some 33) ⟨.lit (.bool false), k + 1, [], [m + 3]⟩] ?_ <;> and_intros <;> first | exact hdT | (apply zM; (repeat intro ht); apply zM; (repeat intro hg); apply zM)
      · exact hlend rfl (by kernel_rfl) rfl rfl
      refine wlL ?_ <;> and_intros <;> first | exact hdT | (apply zM; (repeat intro ht); apply zM; (repeat intro hg); apply zM)
      have uU := zA @hneg @hmb
      refine wlL ?_ <;> and_intros <;> first | exact hdT | (apply zM; (repeat intro ht); apply zM; (repeat intro hg); apply zM)
      refine C_ret rfl ?_; simp -dsimp -implicitDefEqProofs (disch := omega) only [go_sem, nq0, hneg, hmb, eq_self, ↓reduceIte]; refine ⟨_, rfl, ?_⟩
      refine ⟨?_, ?_⟩
      · rw [eRV]; rfl
      · rw [eRH]
        simp only [MH, LH]
        refine rRL ?_ <;> first | exact hdT | apply zN
    · obtain ⟨L', hL', hF', hmove⟩ := move L n hS i hi to (by omega) (by rw [hto] at h6; have := Int.emod_two_eq ((L.tsk i).mask / 2 ^ to); simp only [Int.toNat_natCast] at h6; omega) (fun c hc => by rw [hid]; exact hnc c hc) m tk (k + 1) hm (by omega) (Γ := Γ)
      have hLs := hF'.ns
      rw [← hto] at hmove
      refine ⟨L', 0, 0, tk, k, hL', ⟨hF', .inl rfl⟩, hm, ⟨hk, .inl rfl⟩, Nat.le_refl _, ?_⟩
      obtain ⟨RH, eRH⟩ : ∃ x : Heap, x = MH m tk L' := ⟨_, rfl⟩; obtain ⟨RV, eRV⟩ : ∃ x : AVal, x = res2 0 0 := ⟨_, rfl⟩; refine Tr.mono (Tr_in (k := k) (V := RV) (RH := RH) (by omega) (by rw [eRV]; rfl) (by rw [eRH]; exact MH_lt (by omega) (by omega)) ?_) (fun _ _ _ h => ⟨h.1, h.2.1.trans eRV, h.2.2.trans eRH⟩)
      refine Tr_at Tryz.func38 rfl 67 rfl (Nat.le_of_ble_eq_true rfl) ?_
      simp only [MH, LH]
      have kp : Kp [0,1,3,4,5,6,7,13,22,25,34,47] (fun i => if k ≤ i then i - k + 1 else 0) := kpI
      refine wlL ?_ <;> and_intros <;> first | exact hdT | (apply zM; (repeat intro ht); apply zM; (repeat intro hg); apply zM)
      refine clL [.far (.lit (.bool true)) (k + 1) [(k, ⟨8, true, [opc o]⟩)] (MH m tk L) (MH m tk L)] ?_ <;> and_intros <;> first | exact hdT | (apply zM; (repeat intro ht); apply zM; (repeat intro hg); apply zM)
      · intro q; simp only [MH, LH, mrow, opc, List.cons_append, List.nil_append]
      · exact MH_apart (fun i hi => by simp only [AM.look]; repeat (rw [if_neg (by omega)])) rfl
      simp only [MH, LH]
      refine rRL ?_ <;> first | exact hdT | apply zN
      refine wlL ?_ <;> and_intros <;> first | exact hdT | (apply zM; (repeat intro ht); apply zM; (repeat intro hg); apply zM)
      refine clL [.ret (.lit (.bool true))] ?_ <;> and_intros <;> first | exact hdT | (apply zM; (repeat intro ht); apply zM; (repeat intro hg); apply zM)
      refine wlL ?_ <;> and_intros <;> first | exact hdT | (apply zM; (repeat intro ht); apply zM; (repeat intro hg); apply zM)
      refine clL [.far (.lit (.int .i64 (i : Int))) (k + 1) [(k, ⟨8, true, [opc o]⟩)] (MH m tk L) (MH m tk L)] ?_ <;> and_intros <;> first | exact hdT | (apply zM; (repeat intro ht); apply zM; (repeat intro hg); apply zM)
      · intro q; simp only [MH, LH, mrow, opc, List.cons_append, List.nil_append]
      · exact MH_apart (fun i hi => by simp only [AM.look]; repeat (rw [if_neg (by omega)])) rfl
      simp only [MH, LH]
      refine rRL ?_ <;> first | exact hdT | apply zN
      refine wlL ?_ <;> and_intros <;> first | exact hdT | (apply zM; (repeat intro ht); apply zM; (repeat intro hg); apply zM)
      refine dlL [.raw (some 33) ⟨.lit (.bool false), k + 1, [], [m + 3]⟩] ?_ <;> and_intros <;> first | exact hdT | (apply zM; (repeat intro ht); apply zM; (repeat intro hg); apply zM)
      · exact hlend rfl (by kernel_rfl) rfl rfl
      refine wlL ?_ <;> and_intros <;> first | exact hdT | (apply zM; (repeat intro ht); apply zM; (repeat intro hg); apply zM)
      have uU := zA @hneg @hmb
      refine wlL ?_ <;> and_intros <;> first | exact hdT | (apply zM; (repeat intro ht); apply zM; (repeat intro hg); apply zM)
      refine clL [.far (.tup []) (k + 1) [(k, ⟨8, true, [opc o]⟩)] (MH m tk L) (MH m tk L')] ?_ <;> and_intros <;> first | exact hdT | (apply zM; (repeat intro ht); apply zM; (repeat intro hg); apply zM)
      · intro q; simp only [MH, LH, mrow, opc, List.cons_append, List.nil_append]
      · exact MH_apart (fun i hi => by simp only [AM.look]; repeat (rw [if_neg (by omega)])) hF'.ns
      simp only [MH, LH]
      refine rRL ?_ <;> first | exact hdT | apply zN
      refine wlL ?_ <;> and_intros <;> first | exact hdT | (apply zM; (repeat intro ht); apply zM; (repeat intro hg); apply zM)
      refine C_ret rfl ?_; simp -dsimp -implicitDefEqProofs (disch := omega) only [go_sem, nq0, hneg, hmb, eq_self, ↓reduceIte]; refine ⟨_, rfl, ?_⟩
      refine ⟨?_, ?_⟩
      · rw [eRV]; rfl
      · rw [eRH]
        simp only [MH, LH]
        refine rRL ?_ <;> first | exact hdT | apply zN
end Go.Proofs.T
end
section
namespace Go.Proofs.T
open Go Go.AM Go.Proofs
set_option maxRecDepth 20000
variable {Γ : List (Nat × List AVal)}
def cpR (L : LSt) (i : Nat) : List (List AVal) := (List.range L.sl.length).map fun j => if j < i then ssf L.st j else [.lit (.slice none 0 0)]
theorem cpR_len (L : LSt) (i : Nat) : (cpR L i).length = L.sl.length := by simp [cpR]
theorem cpR_zero (L : LSt) : cpR L 0 = List.replicate L.sl.length [.lit (.slice none 0 0)] := List.ext_getElem? fun j => by
  by_cases h : j < L.sl.length
  · simp [cpR, h]
  · rw [List.getElem?_eq_none (by rw [cpR_len]; omega), List.getElem?_eq_none (by simp; omega)]
theorem cpR_set (L : LSt) (i : Nat) (h : i < L.sl.length) : (cpR L i).set i (ssf L.st i) = cpR L (i + 1) := List.ext_getElem? fun j => by
  rw [List.getElem?_set]
  by_cases e : i = j
  · subst e
    rw [if_pos rfl, if_pos (by rw [cpR_len]; exact h)]
    simp [cpR, h]
  · rw [if_neg e]
    by_cases hj : j < L.sl.length
    · simp only [cpR, List.getElem?_map, List.getElem?_range hj, Option.map_some]
      by_cases h1 : j < i
      · rw [if_pos h1, if_pos (by omega)]
      · rw [if_neg h1, if_neg (by omega)]
    · rw [List.getElem?_eq_none (by rw [cpR_len]; omega), List.getElem?_eq_none (by rw [cpR_len]; omega)]
theorem cpR_last (L : LSt) : cpR L L.sl.length = (List.range L.sl.length).map (ssf L.st) := List.map_congr_left fun j hj => if_pos (List.mem_range.1 hj)
attribute [go_sem] cpR_len stc
theorem rows_one_of {α : Type} (l : List α) (f : α → List AVal) (h : ∀ x, (f x).all AM.one = true) : ((l.map f).all fun row => row.all AM.one) = true := by
  rw [List.all_eq_true]
  intro row hr
  simp only [List.mem_map] at hr
  obtain ⟨t, _, rfl⟩ := hr
  exact h t
theorem look_MH6 {m tk i : Nat} {L : LSt} (hm : m + 6 + L.sl.length ≤ tk) (hi : i < L.sl.length) : AM.look (MH m tk L) (m + (6 + i)) = some ⟨3, true, slR L i⟩ := by
  simp only [MH, LH, AM.look]
  repeat rw [if_neg (by omega)]
  exact look_fam6 hi
set_option maxHeartbeats 8000000 in
theorem copiedF (L : LSt) (n : Nat) (hS : Rt0 L n) (m tk k : Nat) (hm : m + 6 + L.sl.length ≤ tk) (hk : tk < k) :
    Tr Tryz.prog Γ 30 k [.agg (stc m tk L)] (MH m tk L) (fun k1 r1 H1 => k1 = k ∧ r1 = .agg L.st.cells ∧ H1 = MH m tk L) := by
  have hnt := hS.nt
  have hng := hS.ng
  have hnk := hS.nk
  have hnu := hS.nu
  have hn1 := hS.n1
  have hn64 := hS.n64
  have hns := hS.ns
  have hns1 := hS.ns1
  obtain ⟨RH, eRH⟩ : ∃ x : Heap, x = MH m tk L := ⟨_, rfl⟩
  obtain ⟨RV, eRV⟩ : ∃ x : AVal, x = .agg L.st.cells := ⟨_, rfl⟩
  refine Tr.mono (Tr_in (kk := k) (V := RV) (RH := RH) (by omega) (by rw [eRV]; rfl) (by rw [eRH]; exact MH_lt (by omega) (by omega)) ?_) (fun _ _ _ h => ⟨h.1, h.2.1.trans eRV, h.2.2.trans eRH⟩)
  have cG := cloneG (glR L) L.gl.length (gf L.st) (m + 1) (k + 2) (glR_len L) (by omega) (by omega) (rows_one_of _ _ fun _ => rfl) (fun i hi => by rw [glR_get hi]; rfl) (by omega) (Γ := Γ)
  have cK := cloneI (klR L) L.kl.length (kf L.st) (m + 2) (k + 4) (klR_len L) (by omega) (by omega) (rows_one_of _ _ fun _ => rfl) (fun i hi => by rw [klR_get hi]; rfl) (by omega) (Γ := Γ)
  have cU := cloneI (ulR L) L.ul.length (uf L.st) (m + 3) (k + 6) (ulR_len L) (by omega) (by omega) (rows_one_of _ _ fun _ => rfl) (fun i hi => by rw [ulR_get hi]; rfl) (by omega) (Γ := Γ)
  have cT : Tr Tryz.prog Γ 63 (k + 8) [.sl tk 0 L.tl.length] [(tk, ⟨8, true, tlR L⟩)] (fun k1 r1 H1 => k1 = k + 8 + 2 ∧ r1 = .rd 8 L.tl.length (tf L.st) ∧ H1 = [(tk, ⟨8, true, tlR L⟩)]) := by
    by_cases h0 : L.tl.length = 0
    · rw [h0]; exact cloneT0 (tlR L) (tf L.st) tk (k + 8) (by omega)
    · exact cloneT (tlR L) L.tl.length (tf L.st) tk (k + 8) (tlR_len L) (by omega) (by omega) (rows_one_of _ _ fun _ => rfl) (fun i hi => by rw [tlR_get hi]; rfl) (by omega)
  refine Tr_at Tryz.func30 rfl 45 rfl (Nat.le_of_ble_eq_true rfl) ?_
  simp only [MH, LH]
  have kp : Kp [0,1,2,3,4,5,29,30,31,32] (fun i => i - k) := kpI
  refine wlL ?_ <;> and_intros <;> first | exact hdT | (apply zM; (repeat intro ht); apply zM; (repeat intro hg); apply zM)
  refine clL [.gen (.rd 2 L.gl.length (gf L.st)) (k + 4) [(m + 1, ⟨2, true, glR L⟩)] [(m + 1, ⟨2, true, glR L⟩)]] ?_ <;> and_intros <;> first | exact hdT | (apply zM; (repeat intro ht); apply zM; (repeat intro hg); apply zM)
  refine wlL ?_ <;> and_intros <;> first | exact hdT | (apply zM; (repeat intro ht); apply zM; (repeat intro hg); apply zM)
  have kp : Kp [0,1,2,3,4,5,29,30,31,32] (fun i => if i = m + 2 then 1 else if i = m + 3 then 2 else if i = tk then 3 else if k ≤ i then i - k + 4 else 0) := kpI
  refine dlL [.gen (.rd 1 L.kl.length (kf L.st)) (k + 6) [(m + 2, ⟨1, true, klR L⟩)] [(m + 2, ⟨1, true, klR L⟩)], .gen (.rd 1 L.ul.length (uf L.st)) (k + 8) [(m + 3, ⟨1, true, ulR L⟩)] [(m + 3, ⟨1, true, ulR L⟩)], .gen (.rd 8 L.tl.length (tf L.st)) (k + 10) [(tk, ⟨8, true, tlR L⟩)] [(tk, ⟨8, true, tlR L⟩)]] ?_ <;> and_intros <;> first | exact hdT | (apply zM; (repeat intro ht); apply zM; (repeat intro hg); apply zM)
  refine wlL ?_ <;> and_intros <;> first | exact hdT | (apply zM; (repeat intro ht); apply zM; (repeat intro hg); apply zM)
  obtain ⟨crow, ecr⟩ : ∃ r : List AVal, r = [.lit (.int .i64 L.cpus), .lit (.int .u64 L.credit), .rd 2 L.gl.length (gf L.st), .rd 1 L.kl.length (kf L.st), .rd 1 L.ul.length (uf L.st), .rd 8 L.tl.length (tf L.st), .sl (m + 5) 0 L.sl.length] := ⟨_, rfl⟩
  obtain ⟨zrow, ezr⟩ : ∃ r : List AVal, r = [.lit (.int .i64 0), .lit (.int .u64 0), .lit (.slice none 0 0), .lit (.slice none 0 0), .lit (.slice none 0 0), .lit (.slice none 0 0), .lit (.slice none 0 0)] := ⟨_, rfl⟩
  refine M_forO (X := Nat) rfl [0,1,2,3,4,5,29,30,31,32] (k + 11) (fun i => [(31, .lit (.int .i64 (i : Int)))]) (fun i => (k + 10, ⟨1, true, cpR L i⟩) :: (k + 1, ⟨7, true, [zrow]⟩) :: (k, ⟨7, false, [crow]⟩) :: MH m tk L) (fun i => i ≤ L.sl.length) (fun i => L.sl.length - i) 0 ?_ (Nat.zero_le _) ?_
  · simp only [MH, LH]
    rw [cpR_zero, ecr, ezr]
    refine rRL ?_ <;> first | exact hdT | apply zN
    exact wkD
  intro i hi
  by_cases hi2 : i < L.sl.length
  · have hrow := hS.rows i hi2
    have cS := cloneS L i n m tk (k + 11) hm (by omega) hi2 hrow (by omega) (by omega) (Γ := Γ)
    have hset := cpR_set L i hi2
    rw [ssf, show L.st.nsp i = n from hrow] at hset
    have hcget : (cpR L i)[i]? = some [.lit (.slice none 0 0)] := by simp [cpR, hi2]
    rw [ecr, ezr]
    simp only [MH, LH]
    have uU := zA @hrow (zA @hset @hcget)
    refine rRL ?_ <;> first | exact hdT | apply zN
    have kp : Kp [0,1,2,3,4,5,29,30,31,32] (fun i => if k ≤ i then i - k + 1 else 0) := kpI
    refine wlL ?_ <;> and_intros <;> first | exact hdT | (apply zM; (repeat intro ht); apply zM; (repeat intro hg); apply zM)
    refine clL [.far (.rd 3 n (sf L.st i)) (k + 13) [(k + 10, ⟨1, true, cpR L i⟩), (k + 1, ⟨7, true, [zrow]⟩), (k, ⟨7, false, [crow]⟩)] (MH m tk L) (MH m tk L)] ?_ <;> and_intros <;> first | exact hdT | (apply zM; (repeat intro ht); apply zM; (repeat intro hg); apply zM)
    · rw [look_MH6 hm hi2]; rfl
    · intro q; simp only [MH, LH, mrow, ecr, ezr, List.cons_append, List.nil_append]
    · exact MH_apart (fun i hi => by simp only [AM.look]; repeat (rw [if_neg (by omega)])) rfl
    simp only [MH, LH]
    refine rRL ?_ <;> first | exact hdT | apply zN
    refine wlL ?_ <;> and_intros <;> first | exact hdT | (apply zM; (repeat intro ht); apply zM; (repeat intro hg); apply zM)
    refine ⟨i + 1, by omega, by omega, ?_⟩
    try rw [ecr, ezr]
    try (simp only [MH, LH])
    try (simp -dsimp -implicitDefEqProofs (disch := omega) only [go_sem, nq0, hrow, hset, hcget, eq_self, ↓reduceIte])
    exact wkD
  · have hil : i = L.sl.length := by omega
    rw [ecr, ezr]
    subst hil
    rw [cpR_last]
    simp only [MH, LH]
    refine rRL ?_ <;> first | exact hdT | apply zN
    have kp : Kp [0,1,2,3,4,5,29,30,31,32] (fun i => if k ≤ i then i - k + 1 else 0) := kpI
    refine wlL ?_ <;> and_intros <;> first | exact hdT | (apply zM; (repeat intro ht); apply zM; (repeat intro hg); apply zM)
    refine W_mv (Mv.freeze (k + 10) (B := ⟨1, true, (List.range L.sl.length).map (ssf L.st)⟩) (by simp (disch := omega) only [AM.look, nq0, ↓reduceIte]) rfl) ?_
    simp -dsimp -implicitDefEqProofs only [frzF, frz_app, go_sem, eq_self, ↓reduceIte]
    have hrs : VLes [.lit (.int .i64 L.cpus), .lit (.int .u64 L.credit), .rd 2 L.gl.length (gf L.st), .rd 1 L.kl.length (kf L.st), .rd 1 L.ul.length (uf L.st), .rd 8 L.tl.length (tf L.st), .rd 1 L.sl.length (fun j => ((List.range L.sl.length).map (ssf L.st)).getD j [])] L.st.cells :=
      .cons (VLe.refl _) (.cons (VLe.refl _) (.cons (VLe.refl _) (.cons (VLe.refl _) (.cons (VLe.refl _) (.cons (VLe.refl _) (.cons (VLe.copy' _ _ _) .nil))))))
    refine W_mv (Mv.row (k + 1) (l := []) L.st.cells (by simp (disch := omega) only [AM.look, nq0, ↓reduceIte, List.nil_append]; rfl) hrs rfl) ?_
    refine rRL ?_ <;> first | exact hdT | apply zN
    refine C_ret rfl ?_; simp -dsimp -implicitDefEqProofs (disch := omega) only [go_sem, nq0, eq_self, ↓reduceIte]; refine ⟨_, rfl, ?_⟩
    refine ⟨?_, ?_⟩
    · rw [eRV]; rfl
    · rw [eRH]
      simp only [MH, LH]
      refine rRL ?_ <;> first | exact hdT | apply zN
theorem mstate (L : LSt) (n : Nat) (hS : Rt0 L n) (m tk k : Nat) (hm : m + 6 + L.sl.length ≤ tk) (hk : tk < k) :
    Tr Tryz.prog Γ 13 k [.ptr m 0 0] (MH m tk L) (fun k1 r1 H1 => k1 = k ∧ r1 = .tup [.agg L.st.cells, .lit (.int .i64 0)] ∧ H1 = MH m tk L) := by
  obtain ⟨RH, eRH⟩ : ∃ x : Heap, x = MH m tk L := ⟨_, rfl⟩
  obtain ⟨RV, eRV⟩ : ∃ x : AVal, x = .tup [.agg L.st.cells, .lit (.int .i64 0)] := ⟨_, rfl⟩
  refine Tr.mono (Tr_in (kk := k) (V := RV) (RH := RH) (by omega) (by rw [eRV]; rfl) (by rw [eRH]; exact MH_lt (by omega) (by omega)) ?_) (fun _ _ _ h => ⟨h.1, h.2.1.trans eRV, h.2.2.trans eRH⟩)
  have hcp := copiedF L n hS m tk (k + 1) hm (by omega) (Γ := Γ)
  simp only [stc, St.cells] at hcp
  refine Tr_at Tryz.func13 rfl 19 rfl (Nat.le_of_ble_eq_true rfl) ?_
  simp only [MH, LH]
  have kp : Kp [0,2,3,12] (fun i => if k ≤ i then i - k + 1 else 0) := kpI
  refine wlL ?_ <;> and_intros <;> first | exact hdT | (apply zM; (repeat intro ht); apply zM; (repeat intro hg); apply zM)
  refine clL [.far (.agg [.lit (.int .i64 L.st.cpus), .lit (.int .u64 L.st.credit), .rd 2 L.st.ng (gf L.st), .rd 1 L.st.nk (kf L.st), .rd 1 L.st.nu (uf L.st), .rd 8 L.st.nt (tf L.st), .rd 1 L.st.ns (ssf L.st)]) (k + 1) [(k, ⟨7, true, [[.lit (.int .i64 0), .lit (.int .u64 0), .lit (.slice none 0 0), .lit (.slice none 0 0), .lit (.slice none 0 0), .lit (.slice none 0 0), .lit (.slice none 0 0)]]⟩)] (MH m tk L) (MH m tk L)] ?_ <;> and_intros <;> first | exact hdT | (apply zM; (repeat intro ht); apply zM; (repeat intro hg); apply zM)
  · simp only [MH, LH]
    refine rRL ?_ <;> first | exact hdT | apply zN
    try rfl
  · intro q; simp only [MH, LH, mrow, List.cons_append, List.nil_append]
  · exact MH_apart (fun i hi => by simp only [AM.look]; repeat (rw [if_neg (by omega)])) rfl
  refine C_ret rfl ?_; simp -dsimp -implicitDefEqProofs (disch := omega) only [go_sem, nq0, eq_self, ↓reduceIte]; refine ⟨_, rfl, ?_⟩
  refine ⟨?_, ?_⟩
  · rw [eRV]; rfl
  · rw [eRH]
    simp only [MH, LH]
    refine rRL ?_ <;> first | exact hdT | apply zN
end Go.Proofs.T
end
section
namespace Go.Proofs.T
open Go Go.AM Go.Proofs
set_option maxRecDepth 20000
variable {Γ : List (Nat × List AVal)}
set_option maxHeartbeats 2000000 in
theorem ownI (n : Nat) (f : Nat → List AVal) (k : Nat) (hn0 : 0 < n) (hn2 : n ≤ 100000) (hone : (((List.range n).map f).all fun row => row.all AM.one) = true) :
    Tr Tryz.prog Γ 62 k [.rd 1 n f] [] (fun k1 r1 H1 => k1 = k + 2 ∧ r1 = .sl (k + 1) 0 n ∧ H1 = [(k + 1, ⟨1, true, (List.range n).map f⟩)]) := by
  obtain ⟨R, eR⟩ : ∃ R, R = (List.range n).map f := ⟨_, rfl⟩
  have hl : R.length = n := by rw [eR]; simp
  obtain ⟨RH, eRH⟩ : ∃ x : Heap, x = [(k + 1, ⟨1, true, R⟩)] := ⟨_, rfl⟩
  rw [← eR] at hone ⊢
  refine Tr.mono (Tr_in (kk := k + 2) (V := .sl (k + 1) 0 n) (RH := RH) (by omega) (by simp [bd, bd1, bd0, ltB]) (by rw [eRH]; exact bdH_cons1 (by simp only [ltB, decide_eq_true_eq]; omega) rfl) ?_) (fun _ _ _ h => ⟨h.1, h.2.1, h.2.2.trans eRH⟩)
  have hne : ¬ n = 0 := by omega
  have eR2 := eR.symm
  refine Tr_at Tryz.func62 rfl 8 rfl (Nat.le_of_ble_eq_true rfl) ?_
  have kp : Kp [0,2,4] (fun i => i - k) := kpI
  have uU := zA @hone (zA @hne (zA @hn0 @eR2))
  refine wlL ?_ <;> and_intros <;> first | exact hdT | (apply zM; (repeat intro ht); apply zM; (repeat intro hg); apply zM)
  refine C_ret rfl ?_; simp -dsimp -implicitDefEqProofs (disch := omega) only [go_sem, nq0, hone, hne, hn0, eR2, eq_self, ↓reduceIte]; refine ⟨_, rfl, ?_⟩
  refine ⟨rfl, ?_⟩
  rw [eRH]
  refine rRL ?_ <;> first | exact hdT | apply zN
set_option maxHeartbeats 2000000 in
theorem ownG (n : Nat) (f : Nat → List AVal) (k : Nat) (hn0 : 0 < n) (hn2 : n ≤ 100000) (hone : (((List.range n).map f).all fun row => row.all AM.one) = true) :
    Tr Tryz.prog Γ 61 k [.rd 2 n f] [] (fun k1 r1 H1 => k1 = k + 2 ∧ r1 = .sl (k + 1) 0 n ∧ H1 = [(k + 1, ⟨2, true, (List.range n).map f⟩)]) := by
  obtain ⟨R, eR⟩ : ∃ R, R = (List.range n).map f := ⟨_, rfl⟩
  have hl : R.length = n := by rw [eR]; simp
  obtain ⟨RH, eRH⟩ : ∃ x : Heap, x = [(k + 1, ⟨2, true, R⟩)] := ⟨_, rfl⟩
  rw [← eR] at hone ⊢
  refine Tr.mono (Tr_in (kk := k + 2) (V := .sl (k + 1) 0 n) (RH := RH) (by omega) (by simp [bd, bd1, bd0, ltB]) (by rw [eRH]; exact bdH_cons1 (by simp only [ltB, decide_eq_true_eq]; omega) rfl) ?_) (fun _ _ _ h => ⟨h.1, h.2.1, h.2.2.trans eRH⟩)
  have hne : ¬ n = 0 := by omega
  have eR2 := eR.symm
  refine Tr_at Tryz.func61 rfl 8 rfl (Nat.le_of_ble_eq_true rfl) ?_
  have kp : Kp [0,2,4] (fun i => i - k) := kpI
  have uU := zA @hone (zA @hne (zA @hn0 @eR2))
  refine wlL ?_ <;> and_intros <;> first | exact hdT | (apply zM; (repeat intro ht); apply zM; (repeat intro hg); apply zM)
  refine C_ret rfl ?_; simp -dsimp -implicitDefEqProofs (disch := omega) only [go_sem, nq0, hone, hne, hn0, eR2, eq_self, ↓reduceIte]; refine ⟨_, rfl, ?_⟩
  refine ⟨rfl, ?_⟩
  rw [eRH]
  refine rRL ?_ <;> first | exact hdT | apply zN
set_option maxHeartbeats 2000000 in
theorem ownS (n : Nat) (f : Nat → List AVal) (k : Nat) (hn0 : 0 < n) (hn2 : n ≤ 100000) (hone : (((List.range n).map f).all fun row => row.all AM.one) = true) :
    Tr Tryz.prog Γ 64 k [.rd 3 n f] [] (fun k1 r1 H1 => k1 = k + 2 ∧ r1 = .sl (k + 1) 0 n ∧ H1 = [(k + 1, ⟨3, true, (List.range n).map f⟩)]) := by
  obtain ⟨R, eR⟩ : ∃ R, R = (List.range n).map f := ⟨_, rfl⟩
  have hl : R.length = n := by rw [eR]; simp
  obtain ⟨RH, eRH⟩ : ∃ x : Heap, x = [(k + 1, ⟨3, true, R⟩)] := ⟨_, rfl⟩
  rw [← eR] at hone ⊢
  refine Tr.mono (Tr_in (kk := k + 2) (V := .sl (k + 1) 0 n) (RH := RH) (by omega) (by simp [bd, bd1, bd0, ltB]) (by rw [eRH]; exact bdH_cons1 (by simp only [ltB, decide_eq_true_eq]; omega) rfl) ?_) (fun _ _ _ h => ⟨h.1, h.2.1, h.2.2.trans eRH⟩)
  have hne : ¬ n = 0 := by omega
  have eR2 := eR.symm
  refine Tr_at Tryz.func64 rfl 8 rfl (Nat.le_of_ble_eq_true rfl) ?_
  have kp : Kp [0,2,4] (fun i => i - k) := kpI
  have uU := zA @hone (zA @hne (zA @hn0 @eR2))
  refine wlL ?_ <;> and_intros <;> first | exact hdT | (apply zM; (repeat intro ht); apply zM; (repeat intro hg); apply zM)
  refine C_ret rfl ?_; simp -dsimp -implicitDefEqProofs (disch := omega) only [go_sem, nq0, hone, hne, hn0, eR2, eq_self, ↓reduceIte]; refine ⟨_, rfl, ?_⟩
  refine ⟨rfl, ?_⟩
  rw [eRH]
  refine rRL ?_ <;> first | exact hdT | apply zN
theorem ownN : AM.Pure Tryz.prog Γ 63 [.lit (.slice none 0 0)] (.lit (.slice none 0 0)) := by
  refine Pure_at Tryz.func63 rfl 8 rfl (Nat.le_of_ble_eq_true rfl) rfl fun k => ?_
  have kp : Kp [0,2,4] (fun i => i - k) := kpI
  refine wlL ?_ <;> and_intros <;> first | exact hdT | (apply zM; (repeat intro ht); apply zM; (repeat intro hg); apply zM)
  refine C_ret rfl ⟨_, rfl, VLe.of_eq ?_⟩
  rfl
end Go.Proofs.T
end
section
namespace Go.Proofs.T
open Go Go.AM Go.Proofs
set_option maxRecDepth 20000
variable {Γ : List (Nat × List AVal)}
def zI : List AVal := [.lit (.int .i64 0)]
def zS : List AVal := [.lit (.int .u64 0), .lit (.int .u32 0), .lit (.int .u64 0)]
def cpO (b ns n : Nat) (i : Nat) : List (List AVal) := (List.range ns).map fun j => if j < i then [.sl (b + j) 0 n] else [.lit (.slice none 0 0)]
theorem cpO_len (b ns n i : Nat) : (cpO b ns n i).length = ns := by simp [cpO]
theorem cpO_zero (b ns n : Nat) : cpO b ns n 0 = List.replicate ns [.lit (.slice none 0 0)] := List.ext_getElem? fun j => by
  by_cases h : j < ns
  · simp [cpO, h]
  · rw [List.getElem?_eq_none (by rw [cpO_len]; omega), List.getElem?_eq_none (by simp; omega)]
theorem cpO_set (b ns n i : Nat) (h : i < ns) : (cpO b ns n i).set i [.sl (b + i) 0 n] = cpO b ns n (i + 1) := List.ext_getElem? fun j => by
  rw [List.getElem?_set]
  by_cases e : i = j
  · subst e
    rw [if_pos rfl, if_pos (by rw [cpO_len]; exact h)]
    simp [cpO, h]
  · rw [if_neg e]
    by_cases hj : j < ns
    · simp only [cpO, List.getElem?_map, List.getElem?_range hj, Option.map_some]
      by_cases h1 : j < i
      · rw [if_pos h1, if_pos (by omega)]
      · rw [if_neg h1, if_neg (by omega)]
    · rw [List.getElem?_eq_none (by rw [cpO_len]; omega), List.getElem?_eq_none (by rw [cpO_len]; omega)]
theorem cpO_last (b ns n : Nat) : cpO b ns n ns = (List.range ns).map fun j => [.sl (b + j) 0 n] := List.map_congr_left fun j hj => if_pos (List.mem_range.1 hj)
attribute [go_sem] cpO_len zI zS
theorem famIn_succ {H : Heap} {f s n : Nat} {R : Nat → List (List AVal)} : famIn H f s (n + 1) R ↔ famIn H f s n R ∧ AM.look H (f + n) = some ⟨s, true, R n⟩ := by
  constructor
  · exact fun h => ⟨fun g hg => h g (by omega), h n (by omega)⟩
  · rintro ⟨h1, h2⟩ g hg
    by_cases e : g = n
    · subst e; exact h2
    · exact h1 g (by omega)
theorem Mv.raise {kb k k2 : Nat} {fr : Fr} {H : Heap} (h : k ≤ k2) : Mv kb k fr H k2 fr H := fun hk => ⟨by omega, fun Γ nt A0 w G ρ a hA hi => by
  have hal : ∀ i, alw A0 kb k i → alw A0 kb k2 i := fun i h' => h'.imp id fun h'' => ⟨h''.1, by omega⟩
  refine ⟨G, ρ, ⟨hi.rel.allow (ofHeap H (alw A0 kb k2)) (fun id hn => ?_) (fun id B A' hs => ?_), hi.size, hi.defers, fun t v hv => (hi.frm t v hv).mono (fun _ h => h) (fun _ _ => rfl) (fun _ _ => rfl) hal (fun _ _ => .inr rfl)⟩, Step.refl _ _ _ _⟩
  · simp only [ofHeap, Option.map_eq_none_iff] at hn ⊢; exact hn
  · simp only [ofHeap, Option.map_eq_some_iff] at hs
    obtain ⟨B1, h1, h2⟩ := hs
    cases h2
    exact ⟨alw A0 kb k, by simp [ofHeap, h1], hal⟩⟩
theorem famIn_zero {H : Heap} {f s : Nat} {R : Nat → List (List AVal)} : famIn H f s 0 R = True := eq_true fun g hg => absurd hg (Nat.not_lt_zero _)
attribute [go_sem] famIn_zero
theorem famIn_succ' {H : Heap} {f s n : Nat} {R : Nat → List (List AVal)} : famIn H f s (n + 1) R = (famIn H f s n R ∧ AM.look H (f + n) = some ⟨s, true, R n⟩) := propext famIn_succ
theorem cpO_sw {b ns n i x : Nat} (h : b + ns ≤ x) (hi : i < ns) : ((cpO b ns n i).set i [.sl x 0 n]).map (fun row => row.map (sw0 x (b + i))) = cpO b ns n (i + 1) := List.ext_getElem? fun j => by
  rw [List.getElem?_map, List.getElem?_set]
  by_cases e : i = j
  · subst e
    rw [if_pos rfl, if_pos (by rw [cpO_len]; exact hi)]
    simp only [cpO, List.getElem?_map, List.getElem?_range hi, Option.map_some, List.map_cons, List.map_nil, sw0, sw]
    rw [if_pos trivial, if_pos (by omega)]
  · rw [if_neg e]
    by_cases hj : j < ns
    · simp only [cpO, List.getElem?_map, List.getElem?_range hj, Option.map_some]
      by_cases h1 : j < i
      · rw [if_pos h1, if_pos (by omega)]
        simp only [List.map_cons, List.map_nil, sw0, sw]
        rw [if_neg (by omega), if_neg (by omega)]
      · rw [if_neg h1, if_neg (by omega)]
        rfl
    · rw [List.getElem?_eq_none (by rw [cpO_len]; omega), List.getElem?_eq_none (by rw [cpO_len]; omega)]
      rfl
theorem cpO_all {b ns n i kk : Nat} (h : b + ns ≤ kk) : ((cpO b ns n i).all fun row => row.all (bd0 (ltB kk))) = true := by
  rw [List.all_eq_true]
  intro row hr
  simp only [cpO, List.mem_map, List.mem_range] at hr
  obtain ⟨g, hg, rfl⟩ := hr
  split
  · simp [bd0, ltB]; omega
  · rfl
attribute [go_sem] cpO_all famIn_succ'
set_option maxHeartbeats 8000000 in
theorem copiedO (cpus credit : Int) (ng n ns : Nat) (gF : Nat → List AVal) (hgone : (((List.range ng).map gF).all fun row => row.all AM.one) = true) (h1 : 0 < ng) (h2 : ng ≤ 1000) (h3 : 0 < n) (h4 : n ≤ 1000) (h5 : 0 < ns) (h6 : ns ≤ 1000) (k : Nat) :
    Tr Tryz.prog Γ 30 k [.agg [.lit (.int .i64 cpus), .lit (.int .u64 credit), .rd 2 ng gF, .rd 1 n (fun _ => zI), .rd 1 n (fun _ => zI), .lit (.slice none 0 0), .rd 1 ns (fun _ => [.rd 3 n (fun _ => zS)])]] []
      (fun k1 r1 H1 => k1 = k + (16 + ns) ∧ r1 = .agg [.lit (.int .i64 cpus), .lit (.int .u64 credit), .sl (k + 10) 0 ng, .sl (k + 11) 0 n, .sl (k + 12) 0 n, .lit (.slice none 0 0), .sl (k + 14) 0 ns] ∧
        H1 = (k + 10, ⟨2, true, (List.range ng).map gF⟩) :: (k + 11, ⟨1, true, (List.range n).map fun _ => zI⟩) :: (k + 12, ⟨1, true, (List.range n).map fun _ => zI⟩) :: (k + 14, ⟨1, false, cpO (k + 15) ns n ns⟩) :: fam (k + 15) 3 ns (fun _ => (List.range n).map fun _ => zS)) := by
  obtain ⟨kx, hkx⟩ : ∃ x, x = k + (16 + ns) := ⟨_, rfl⟩
  rw [← hkx]
  have cG := ownG ng gF (k + 2) h1 (by omega) hgone (Γ := Γ)
  have zIone : (((List.range n).map fun _ => zI).all fun row => row.all AM.one) = true := rows_one_of _ _ fun _ => rfl
  have zSone : (((List.range n).map fun _ => zS).all fun row => row.all AM.one) = true := rows_one_of _ _ fun _ => rfl
  have cK := ownI n (fun _ => zI) (k + 4) h3 (by omega) zIone (Γ := Γ)
  have cU := ownI n (fun _ => zI) (k + 6) h3 (by omega) zIone (Γ := Γ)
  obtain ⟨GR, eG⟩ : ∃ GR, GR = (List.range ng).map gF := ⟨_, rfl⟩
  obtain ⟨KR, eK⟩ : ∃ KR, KR = (List.range n).map fun _ => zI := ⟨_, rfl⟩
  obtain ⟨SR, eS⟩ : ∃ SR, SR = (List.range n).map fun _ => zS := ⟨_, rfl⟩
  rw [← eG] at cG ⊢
  rw [← eK] at cK cU ⊢
  rw [← eS]
  obtain ⟨RH, eRH⟩ : ∃ x : Heap, x = (k + 10, ⟨2, true, GR⟩) :: (k + 11, ⟨1, true, KR⟩) :: (k + 12, ⟨1, true, KR⟩) :: (k + 14, ⟨1, false, cpO (k + 15) ns n ns⟩) :: fam (k + 15) 3 ns (fun _ => SR) := ⟨_, rfl⟩
  obtain ⟨RV, eRV⟩ : ∃ x : AVal, x = .agg [.lit (.int .i64 cpus), .lit (.int .u64 credit), .sl (k + 10) 0 ng, .sl (k + 11) 0 n, .sl (k + 12) 0 n, .lit (.slice none 0 0), .sl (k + 14) 0 ns] := ⟨_, rfl⟩
  refine Tr.mono (Tr_in (kk := kx) (V := RV) (RH := RH) (by omega) ?_ ?_ ?_) (fun _ _ _ h => ⟨h.1, h.2.1.trans eRV, h.2.2.trans eRH⟩)
  · rw [eRV]
    simp -dsimp -implicitDefEqProofs (disch := omega) only [go_sem, nq0, nq5, ltB_iff, List.map_append, List.map_cons, List.map_nil, eq_self, ↓reduceIte]
    try (simp only [Bool.and_eq_true, decide_eq_true_eq]; omega)
  · have hf := bdH_fam (s := 3) (R := fun _ : Nat => SR) (show k + 15 + ns ≤ kx by omega)
    have ho : ((cpO (k + 15) ns n ns).all fun row => row.all (bd0 (ltB kx))) = true := by
      rw [cpO_last, List.all_eq_true]
      intro row hr
      simp only [List.mem_map, List.mem_range] at hr
      obtain ⟨g, hg, rfl⟩ := hr
      simp [bd0, ltB]; omega
    rw [eRH]
    simp only [bdH] at hf
    simp only [bdH, List.all_cons, hf, ho, ltB, Bool.true_or, Bool.false_or, Bool.and_true, Bool.and_eq_true, decide_eq_true_eq]
    repeat' (first | (refine And.intro ?_ ?_) | omega | trivial)
  refine Tr_at Tryz.func30 rfl 45 rfl (Nat.le_of_ble_eq_true rfl) ?_
  have kp : Kp [0,1,2,3,4,5,29,30,31,32] (fun i => i - k) := kpI
  refine wlL ?_ <;> and_intros <;> first | exact hdT | (apply zM; (repeat intro ht); apply zM; (repeat intro hg); apply zM)
  refine clL [.gen (.sl (k + 3) 0 ng) (k + 4) [] [(k + 3, ⟨2, true, GR⟩)]] ?_ <;> and_intros <;> first | exact hdT | (apply zM; (repeat intro ht); apply zM; (repeat intro hg); apply zM)
  refine wlL ?_ <;> and_intros <;> first | exact hdT | (apply zM; (repeat intro ht); apply zM; (repeat intro hg); apply zM)
  have kp : Kp [0,1,2,3,4,5,29,30,31,32] (fun i => if k ≤ i then i - k + 4 else 0) := kpI
  refine dlL [.gen (.sl (k + 5) 0 n) (k + 6) [] [(k + 5, ⟨1, true, KR⟩)], .gen (.sl (k + 7) 0 n) (k + 8) [] [(k + 7, ⟨1, true, KR⟩)], .ret (.lit (.slice none 0 0))] ?_ <;> and_intros <;> first | exact hdT | (apply zM; (repeat intro ht); apply zM; (repeat intro hg); apply zM)
  · exact cK
  · exact cU
  · exact ownN
  refine wlL ?_ <;> and_intros <;> first | exact hdT | (apply zM; (repeat intro ht); apply zM; (repeat intro hg); apply zM)
  refine M_forO (X := Nat) rfl [0,1,2,3,4,5,29,30,31,32] kx (fun i => [(31, .lit (.int .i64 (i : Int))), (3, .sl (k + 14) 0 ns)]) (fun i => (k, ⟨7, false, [[.lit (.int .i64 cpus), .lit (.int .u64 credit), .sl (k + 10) 0 ng, .sl (k + 11) 0 n, .sl (k + 12) 0 n, .lit (.slice none 0 0), .rd 1 ns (fun _ => [.rd 3 n (fun _ => zS)])]]⟩) :: (k + 1, ⟨7, true, [[.lit (.int .i64 0), .lit (.int .u64 0), .lit (.slice none 0 0), .lit (.slice none 0 0), .lit (.slice none 0 0), .lit (.slice none 0 0), .lit (.slice none 0 0)]]⟩) :: (k + 10, ⟨2, true, GR⟩) :: (k + 11, ⟨1, true, KR⟩) :: (k + 12, ⟨1, true, KR⟩) :: (k + 14, ⟨1, decide (i = 0), cpO (k + 15) ns n i⟩) :: fam (k + 15) 3 i (fun _ => SR)) (fun i => i ≤ ns) (fun i => ns - i) 0 ?_ (Nat.zero_le _) ?_
  · rw [cpO_zero]
    refine Mv.trans (Mv.raise (k2 := kx) (by omega)) ?_
    refine Mv.trans (Mv.swap (k + 3) (k + 10) ⟨by omega, by omega⟩ ⟨by omega, by omega⟩) ?_
    refine Mv.trans (Mv.swap (k + 5) (k + 11) ⟨by omega, by omega⟩ ⟨by omega, by omega⟩) ?_
    refine Mv.trans (Mv.swap (k + 7) (k + 12) ⟨by omega, by omega⟩ ⟨by omega, by omega⟩) ?_
    refine Mv.trans (Mv.swap (k + 8) (k + 14) ⟨by omega, by omega⟩ ⟨by omega, by omega⟩) ?_
    refine rRL ?_ <;> first | exact hdT | apply zN
    exact wkD
  intro i hi
  refine rRL ?_ <;> first | exact hdT | apply zN
  by_cases hi2 : i < ns
  · have cS := ownS n (fun _ => zS) kx h3 (by omega) zSone (Γ := Γ)
    rw [← eS] at cS
    have hset := cpO_set (k + 15) ns n i hi2
    have hcg : (cpO (k + 15) ns n i)[i]? = some [.lit (.slice none 0 0)] := by simp [cpO, hi2]
    have uU := @hcg
    refine wlL ?_ <;> and_intros <;> first | exact hdT | (apply zM; (repeat intro ht); apply zM; (repeat intro hg); apply zM)
    refine clL [.gen (.sl (kx + 1) 0 n) (kx + 2) [] [(kx + 1, ⟨3, true, SR⟩)]] ?_ <;> and_intros <;> first | exact hdT | (apply zM; (repeat intro ht); apply zM; (repeat intro hg); apply zM)
    · exact cS
    refine wlL ?_ <;> and_intros <;> first | exact hdT | (apply zM; (repeat intro ht); apply zM; (repeat intro hg); apply zM)
    refine ⟨i + 1, by omega, by omega, ?_⟩
    have hsw := cpO_sw (b := k + 15) (n := n) (x := kx + 1) (by omega : k + 15 + ns ≤ kx + 1) hi2
    rw [Nat.add_assoc k 15 i] at hsw
    refine Mv.trans (Mv.swap (kx + 1) (k + (15 + i)) ⟨by omega, by omega⟩ ⟨by omega, by omega⟩) ?_
    have uU := zA @hsw @famIn_succ'
    refine rRL ?_ <;> first | exact hdT | apply zN
    exact wkD
  · have hil : i = ns := by omega
    subst hil
    refine wlL ?_ <;> and_intros <;> first | exact hdT | (apply zM; (repeat intro ht); apply zM; (repeat intro hg); apply zM)
    refine C_ret rfl ?_; simp -dsimp -implicitDefEqProofs (disch := omega) only [go_sem, nq0, eq_self, ↓reduceIte]; refine ⟨_, rfl, ?_⟩
    refine ⟨?_, ?_⟩
    · rw [eRV]
    · rw [eRH]
      refine rRL ?_ <;> first | exact hdT | apply zN
end Go.Proofs.T
end
section
namespace Go.Proofs.T
open Go Go.AM Go.Proofs
set_option maxRecDepth 20000
variable {Γ : List (Nat × List AVal)}
def LSt.setW (L : LSt) (g : Nat) (w : Int) : LSt := { L with gl := L.gl.set g (L.par g, w) }
theorem setW_par {L : LSt} {g h : Nat} {w : Int} : (L.setW g w).par h = L.par h := by
  unfold LSt.setW LSt.par
  simp only [List.getD_eq_getElem?_getD, List.getElem?_set]
  by_cases e : g = h
  · subst e
    by_cases hl : g < L.gl.length
    · simp [hl]
    · simp [hl]
  · rw [if_neg e]
theorem setW_wt {L : LSt} {g h : Nat} {w : Int} (hg : g < L.gl.length) : (L.setW g w).wt h = if h = g then w else L.wt h := by
  unfold LSt.setW LSt.wt
  simp only [List.getD_eq_getElem?_getD, List.getElem?_set]
  by_cases e : h = g
  · subst e; simp [hg]
  · rw [if_neg (Ne.symm e), if_neg e]
theorem Rt0.setW {L : LSt} {n g : Nat} {w : Int} (h : Rt0 L n) (hg : g < L.sl.length) (hg0 : 0 < g) (hw : 1 ≤ w ∧ w ≤ 65536) (hr : ∀ c, c < n → (L.sp g c).r = 0) : Rt0 (L.setW g w) n := by
  have hgl : g < L.gl.length := by rw [h.ng]; exact hg
  refine ⟨h.n1, h.n64, h.cpus, h.cr0, h.cr, by show (L.gl.set g _).length = _; rw [List.length_set]; exact h.ng, h.ns1, h.ns, h.nk, h.nu, h.rows, h.nt, fun j h1 h2 => by rw [setW_par]; exact h.par j h1 h2, by rw [setW_par]; exact h.par0, fun j hj => ?_, h.clk, fun j c hj hc => ?_, h.root, fun i hi => by have t := h.tk i hi; exact ⟨t.id1, t.id2, t.g0, t.g1, t.c0, t.c1, t.e, t.v0, t.v1, t.r0, t.m0, t.m1, t.m2, t.m3⟩, h.sorted, h.cur⟩
  · rw [setW_wt hgl]
    split
    · exact hw
    · exact h.wt j hj
  · rw [setW_wt hgl]
    obtain ⟨a1, a2, a3, a4, a5, a6⟩ := h.sp j c hj hc
    split
    · rename_i e
      subst e
      have := hr c hc
      refine ⟨?_, a2, a3, a4, a5, a6⟩
      show ent (L.sp j c).v (L.sp j c).r w = true
      rw [this]
      simp [ent]; omega
    · exact ⟨a1, a2, a3, a4, a5, a6⟩
def rw1 (L : LSt) (g c : Nat) : LSt := L.setS g c { L.sp g c with r := 0 }
def rwN (L : LSt) (g : Nat) : Nat → LSt
  | 0 => L
  | j + 1 => rw1 (rwN L g j) g j
theorem rwN_ok {L : LSt} {n g : Nat} (h : Rt0 L n) (hg : g < L.sl.length) : ∀ {j : Nat}, j ≤ n → Rt0 (rwN L g j) n ∧ Fwd L (rwN L g j) ∧ (rwN L g j).tl = L.tl ∧ ∀ c, c < j → ((rwN L g j).sp g c).r = 0
  | 0, _ => ⟨h, Fwd.refl L, rfl, fun c hc => absurd hc (Nat.not_lt_zero _)⟩
  | j + 1, hj => by
    obtain ⟨h1, h2, h3, h4⟩ := rwN_ok h hg (j := j) (by omega)
    have hg' : g < (rwN L g j).sl.length := by rw [h2.ns]; exact hg
    have hr := h1.rows g hg'
    have hjr : j < ((rwN L g j).sl.getD g []).length := by omega
    obtain ⟨a1, a2, a3, a4, a5, a6⟩ := h1.sp g j hg' (by omega)
    refine ⟨h1.setS hg' (by omega) ⟨?_, a2, a3, Int.le_refl _, a5, a6⟩ (fun e => by subst e; exact ⟨(h1.root j (by omega)).1, rfl⟩), h2.trans (Fwd.setS hg' hjr (Int.le_refl _)) (.inl rfl), h3, fun c hc => ?_⟩
    · simp only [ent, decide_eq_true_eq] at a1
      show ent _ 0 _ = true
      simp only [ent, decide_eq_true_eq]
      exact ⟨a1.1, a1.2.1, by omega, .inr trivial⟩
    · show ((rw1 (rwN L g j) g j).sp g c).r = 0
      rw [rw1, setS_sp hg' hjr]
      split
      · rfl
      · rename_i e
        exact h4 c (by have : c ≠ j := fun e2 => e ⟨rfl, e2⟩; omega)
theorem MH_setW {m tk g : Nat} {L : LSt} {w : Int} : MH m tk (L.setW g w) = (m, ⟨8, false, [mrow m tk L]⟩) :: (m + 1, ⟨2, true, (glR L).set g [.lit (.int .i64 (L.par g)), .lit (.int .i64 w)]⟩) :: (m + 2, ⟨1, true, klR L⟩) :: (m + 3, ⟨1, true, ulR L⟩) :: (m + 5, ⟨1, false, ouR m L⟩) :: (tk, ⟨8, true, tlR L⟩) :: fam (m + 6) 3 L.sl.length (slR L) := by
  have e : mrow m tk (L.setW g w) = mrow m tk L := by simp [mrow, LSt.setW]
  have e2 : glR (L.setW g w) = (glR L).set g [.lit (.int .i64 (L.par g)), .lit (.int .i64 w)] := by simp [glR, LSt.setW, List.map_set, glc]
  rw [MH, LH, e, e2]
  rfl
end Go.Proofs.T
end
