import Derived.Test.YteimiejbhhgljaaGreatDoorZAO
set_option linter.unusedVariables false
set_option linter.unusedSimpArgs false
section
namespace Go.Proofs.T
open Go Go.AM Go.Proofs Go.Lib
set_option maxRecDepth 20000
variable {Γ : List (Nat × List AVal)}
attribute [local irreducible] putO del
attribute [local go_sem] strs nil6
theorem nil_vles {d : DE} (hd : d = dE []) : VLes nil6 d.cells := by
  rw [hd]
  exact .cons (VLe.nil _ _) (.cons (VLe.nil _ _) (.cons (VLe.nil _ _) (.cons (VLe.nil _ _) (.cons (VLe.nil _ _) (.cons (VLe.nil _ _) .nil)))))
set_option maxHeartbeats 8000000 in
theorem read_o (hG : GT Γ) (l : List (List UInt8)) (hl : l.length ≤ 10000) (h300 : ∀ s ∈ l, s.length ≤ 300) (k id : Nat) (hid : id < k) (A : List (List AVal)) (hA : l.length ≤ A.length) (hrow : ∀ j, j < l.length → A[j]? = some [.lit (.string (ByteArray.mk (l.getD j []).toArray))]) :
    AM.Tr Tryz.prog Γ 28 k [.sl id 0 l.length] [(id, ⟨1, true, A⟩)] (fun k1 r1 H1 => k1 = k + 1 ∧ VLe r1 (.tup [.agg (dE (rdLs 0 0 [] l).1).cells, .lit (.int .i64 (rdLs 0 0 [] l).2.1), .lit (.int .i64 (rdLs 0 0 [] l).2.2)]) ∧ H1 = [(k, ⟨6, true, [(dE (rdLs 0 0 [] l).1).cells]⟩), (id, ⟨1, true, A⟩)]) := by
  obtain ⟨Z, eZ⟩ : ∃ Z, Z = rdLs 0 0 [] l := ⟨_, rfl⟩
  rw [← eZ]
  obtain ⟨d, eD⟩ : ∃ d, d = dE Z.1 := ⟨_, rfl⟩
  rw [← eD]
  have i0 : ¬ id = k := by omega
  have i4 : ∀ q, id < k + q := fun q => by omega
  have i1 : ∀ q, ¬ id = k + q := fun q => by omega
  have i2 : ¬ k = id := by omega
  have i3 : ∀ q, ¬ k + q = id := fun q => by omega
  refine Tr_at Tryz.func28 rfl 73 rfl (Nat.le_of_ble_eq_true rfl) ?_
  have kp : Kp [0,2,3,4,5,6,7,8,9,10,11,12,13,14,15,31] (fun i => i - k) := kpI
  have uU := zA @hid (zA @i0 (zA @i1 (zA @i2 (zA @i3 @i4))))
  refine wl ?_ <;> and_intros <;> first | exact hdT | (apply zM; (repeat intro ht); apply zM; (repeat intro hg); apply zM)
  refine W_mv (Mv.impure (k + 1) (by simp -dsimp -implicitDefEqProofs only [go_sem, hid, i0, i1, i2, i3, i4, eq_self, ↓reduceIte]; rfl)) ?_
  refine rR ?_ <;> first | exact hdT | apply zN
  refine M_forO (X := Nat × List El × Int) rfl [0,2,3,4,5,6,7,8,9,10,11,12,13,14,15,31] (k + 8) (fun x => [(14, .lit (.int .i64 (x.1 : Int))), (6, .lit (.int .i64 x.2.2))]) (fun x => h6 k x.2.1 [(k + 1, ⟨6, false, [c6 k x.2.1]⟩), (k, ⟨6, true, [nil6]⟩), (id, ⟨1, true, A⟩)]) (fun x => x.1 ≤ l.length ∧ x.2.1.length ≤ x.1 ∧ Z = rdLs x.1 x.2.2 x.2.1 (l.drop x.1)) (fun x => l.length - x.1) (0, [], 0) ?_ ⟨Nat.zero_le _, Nat.le_refl _, eZ⟩ ?_
  · show Mv k (k + 2) _ _ (k + 8) _ [(k + 1, ⟨6, false, [nil6]⟩), (k, ⟨6, true, [nil6]⟩), (id, ⟨1, true, A⟩)]
    refine rR ?_ <;> first | exact hdT | apply zN
    (have uU := zA @hid (zA @i0 (zA @i1 (zA @i2 (zA @i3 @i4)))); exact wkU)
  have qa := acc_cells
  unfold acells at qa
  rintro ⟨j, acc, last⟩ ⟨h1, h2, h3⟩
  simp only at h1 h2 h3
  by_cases hlt : j < l.length
  · obtain ⟨s, es, hs⟩ : ∃ s, s = l.getD j [] ∧ s ∈ l := ⟨_, rfl, by rw [List.getD_eq_getElem?_getD, List.getElem?_eq_getElem hlt]; exact List.getElem_mem hlt⟩
    have hone := one_c hG s (h300 s hs)
    have hdrop : l.drop j = s :: l.drop (j + 1) := by rw [es, List.getD_eq_getElem?_getD, List.getElem?_eq_getElem hlt]; exact List.drop_eq_getElem_cons hlt
    rw [hdrop, rdLs] at h3
    obtain ⟨d1, ed⟩ : ∃ d1, d1 = dE (gE s).toList := ⟨_, rfl⟩
    obtain ⟨at', ea⟩ : ∃ a, a = kW (gE s) := ⟨_, rfl⟩
    obtain ⟨ok, eo⟩ : ∃ o, o = (rdL s).isSome := ⟨_, rfl⟩
    rw [← ed, ← ea, ← eo] at hone
    obtain ⟨L0, e0, l0⟩ : ∃ x, x = (dlE acc).ck.map vlR ∧ x.length ≤ 10000 := ⟨_, rfl, by rw [List.length_map]; have : (dlE acc).ck.length ≤ acc.length := List.length_filterMap_le _ _; omega⟩
    obtain ⟨L1, e1, l1⟩ : ∃ x, x = (dlE acc).cu.map vlR ∧ x.length ≤ 10000 := ⟨_, rfl, by rw [List.length_map]; have : (dlE acc).cu.length ≤ acc.length := List.length_filterMap_le _ _; omega⟩
    obtain ⟨L2, e2, l2⟩ : ∃ x, x = (dlE acc).wg.map vlR ∧ x.length ≤ 10000 := ⟨_, rfl, by rw [List.length_map]; have : (dlE acc).wg.length ≤ acc.length := List.length_filterMap_le _ _; omega⟩
    obtain ⟨L3, e3, l3⟩ : ∃ x, x = (dlE acc).gn.map nR ∧ x.length ≤ 10000 := ⟨_, rfl, by rw [List.length_map]; have : (dlE acc).gn.length ≤ acc.length := List.length_filterMap_le _ _; omega⟩
    obtain ⟨L4, e4, l4⟩ : ∃ x, x = (dlE acc).tk.map tR ∧ x.length ≤ 10000 := ⟨_, rfl, by rw [List.length_map]; have : (dlE acc).tk.length ≤ acc.length := List.length_filterMap_le _ _; omega⟩
    obtain ⟨L5, e5, l5⟩ : ∃ x, x = (dlE acc).sp.map pR ∧ x.length ≤ 10000 := ⟨_, rfl, by rw [List.length_map]; have : (dlE acc).sp.length ≤ acc.length := List.length_filterMap_le _ _; omega⟩
    simp only [h6, c6]
    rw [← e0, ← e1, ← e2, ← e3, ← e4, ← e5]
    have hrj := hrow j hlt
    rw [← es] at hrj
    have hjA : j < A.length := by omega
    have uU := And.intro (Eq.symm (es)) (zA @hid (zA @i0 (zA @i1 (zA @i2 (zA @i3 (zA @i4 (zA @hrj @hjA)))))))
    refine rR ?_ <;> first | exact hdT | apply zN
    refine wl ?_ <;> and_intros <;> first | exact hdT | (apply zM; (repeat intro ht); apply zM; (repeat intro hg); apply zM)
    refine cl [.ret (.tup [.agg d1.cells, .lit (.int .i64 at'), .lit (.bool ok)])] ?_ <;> and_intros <;> first | exact hdT | (apply zM; (repeat intro ht); apply zM; (repeat intro hg); apply zM)
    · exact hone
    cases ok
    · have hno : rdL s = none := by cases h : rdL s with
        | none => rfl
        | some e => rw [h] at eo; cases eo
      rw [hno] at h3
      refine wl ?_ <;> and_intros <;> first | exact hdT | (apply zM; (repeat intro ht); apply zM; (repeat intro hg); apply zM)
      refine wl ?_ <;> and_intros <;> first | exact hdT | (apply zM; (repeat intro ht); apply zM; (repeat intro hg); apply zM)
      have hz : Z = ([], (j : Int), 353) := h3
      refine W_mv (Mv.wk (k1 := k + 1) (fr1 := [(4, .lit (.int .i64 353)), (3, .lit (.int .i64 (j : Int))), (2, .ptr k 0 0)]) (H1 := [(k, ⟨6, true, [nil6]⟩), (id, ⟨1, true, A⟩)]) (wk_low (by omega) (by simp -dsimp -implicitDefEqProofs only [go_sem, ← es, hid, i0, i1, i2, i3, i4, hrj, hjA, List.map_append, Flt.row, eq_self, ↓reduceIte]) (by simp -dsimp -implicitDefEqProofs only [go_sem, ← es, hid, i0, i1, i2, i3, i4, hrj, hjA, List.map_append, Flt.row, eq_self, ↓reduceIte]) (by simp -dsimp -implicitDefEqProofs only [go_sem, ← es, hid, i0, i1, i2, i3, i4, hrj, hjA, List.map_append, Flt.row, eq_self, ↓reduceIte]) (by simp -dsimp -implicitDefEqProofs only [go_sem, ← es, hid, i0, i1, i2, i3, i4, hrj, hjA, List.map_append, Flt.row, eq_self, ↓reduceIte]))) ?_
      refine W_mv (Mv.row (l := []) (r := nil6) k d.cells (by rw [AM.look, if_pos rfl]; rfl) (nil_vles (by rw [eD, hz])) rfl) ?_
      refine C_ret rfl ?_; simp -dsimp -implicitDefEqProofs only [go_sem, ← es, hid, i0, i1, i2, i3, i4, hrj, hjA, eq_self, ↓reduceIte]; refine ⟨_, rfl, ?_⟩
      rw [hz]
      exact VLe.refl _
    · obtain ⟨e, he⟩ : ∃ e, rdL s = some e := by cases h : rdL s with
        | none => rw [h] at eo; cases eo
        | some e => exact ⟨e, rfl⟩
      have hgE := rdL_gE he
      rw [he] at h3
      simp only at h3
      have hat : at' = e.kind := by rw [ea, hgE]; rfl
      rw [hgE] at ed
      refine wl ?_ <;> and_intros <;> first | exact hdT | (apply zM; (repeat intro ht); apply zM; (repeat intro hg); apply zM)
      · rw [if_pos (by omega)] at h3
        refine wl ?_ <;> and_intros <;> first | exact hdT | (apply zM; (repeat intro ht); apply zM; (repeat intro hg); apply zM)
        have hz : Z = ([], (j : Int), 353) := h3
        refine W_mv (Mv.wk (k1 := k + 1) (fr1 := [(4, .lit (.int .i64 353)), (3, .lit (.int .i64 (j : Int))), (2, .ptr k 0 0)]) (H1 := [(k, ⟨6, true, [nil6]⟩), (id, ⟨1, true, A⟩)]) (wk_low (by omega) (by simp -dsimp -implicitDefEqProofs only [go_sem, ← es, hid, i0, i1, i2, i3, i4, hrj, hjA, List.map_append, Flt.row, eq_self, ↓reduceIte]) (by simp -dsimp -implicitDefEqProofs only [go_sem, ← es, hid, i0, i1, i2, i3, i4, hrj, hjA, List.map_append, Flt.row, eq_self, ↓reduceIte]) (by simp -dsimp -implicitDefEqProofs only [go_sem, ← es, hid, i0, i1, i2, i3, i4, hrj, hjA, List.map_append, Flt.row, eq_self, ↓reduceIte]) (by simp -dsimp -implicitDefEqProofs only [go_sem, ← es, hid, i0, i1, i2, i3, i4, hrj, hjA, List.map_append, Flt.row, eq_self, ↓reduceIte]))) ?_
        refine W_mv (Mv.row (l := []) (r := nil6) k d.cells (by rw [AM.look, if_pos rfl]; rfl) (nil_vles (by rw [eD, hz])) rfl) ?_
        refine C_ret rfl ?_; simp -dsimp -implicitDefEqProofs only [go_sem, ← es, hid, i0, i1, i2, i3, i4, hrj, hjA, eq_self, ↓reduceIte]; refine ⟨_, rfl, ?_⟩
        rw [hz]
        exact VLe.refl _
      · rw [if_neg (by omega)] at h3
        cases e with
        | ck a b =>
          have n0 : d1.n0 = 1 := by rw [ed]; rfl
          have n1 : d1.n1 = 0 := by rw [ed]; rfl
          have n2 : d1.n2 = 0 := by rw [ed]; rfl
          have n3 : d1.n3 = 0 := by rw [ed]; rfl
          have n4 : d1.n4 = 0 := by rw [ed]; rfl
          have n5 : d1.n5 = 0 := by rw [ed]; rfl
          have q0 : d1.ck 0 = (a, b) := by rw [ed]; rfl
          have m0 : (dlE (acc ++ [.ck a b])).ck.map vlR = L0 ++ [[.lit (.int .i64 a), .lit (.int .i64 b)]] := fmY (x := (a, b)) e0 rfl
          have m1 : (dlE (acc ++ [.ck a b])).cu.map vlR = L1 := fmN e1 rfl
          have m2 : (dlE (acc ++ [.ck a b])).wg.map vlR = L2 := fmN e2 rfl
          have m3 : (dlE (acc ++ [.ck a b])).gn.map nR = L3 := fmN e3 rfl
          have m4 : (dlE (acc ++ [.ck a b])).tk.map tR = L4 := fmN e4 rfl
          have m5 : (dlE (acc ++ [.ck a b])).sp.map pR = L5 := fmN e5 rfl
          refine W_mv (Mv.wk (k1 := k + 9) (fr1 := [(9, .ptr (k + 8) 0 0), (6, .lit (.int .i64 at')), (14, .lit (.int .i64 (j : Int))), (13, .lit (.int .i64 (l.length : Int))), (12, .sl id 0 l.length), (5, .ptr (k + 1) 0 0), (4, .lit (.int .i64 0)), (3, .lit (.int .i64 0)), (2, .ptr k 0 0), (0, .sl id 0 l.length)]) (H1 := (accH (k + 2) 2 L0 (accH (k + 3) 2 L1 (accH (k + 4) 2 L2 (accH (k + 5) 1 L3 (accH (k + 6) 8 L4 (accH (k + 7) 5 L5 [(k + 8, ⟨6, true, [d1.cells]⟩), (k + 1, ⟨6, false, [[accV (k + 2) L0, accV (k + 3) L1, accV (k + 4) L2, accV (k + 5) L3, accV (k + 6) L4, accV (k + 7) L5]]⟩), (k, ⟨6, true, [nil6]⟩), (id, ⟨1, true, A⟩)]))))))) (wk_low (by omega) (by simp -dsimp -implicitDefEqProofs only [go_sem, hid, i0, i1, i2, i3, i4, qa, n0, n1, n2, n3, n4, n5, q0, List.map_append, Flt.row, eq_self, ↓reduceIte]) (by simp -dsimp -implicitDefEqProofs only [go_sem, hid, i0, i1, i2, i3, i4, qa, n0, n1, n2, n3, n4, n5, q0, List.map_append, Flt.row, eq_self, ↓reduceIte]) (by simp -dsimp -implicitDefEqProofs only [go_sem, hid, i0, i1, i2, i3, i4, qa, n0, n1, n2, n3, n4, n5, q0, List.map_append, Flt.row, eq_self, ↓reduceIte]) (by simp -dsimp -implicitDefEqProofs only [go_sem, hid, i0, i1, i2, i3, i4, qa, n0, n1, n2, n3, n4, n5, q0, List.map_append, Flt.row, eq_self, ↓reduceIte]))) ?_
          refine S_drw rfl [0,2,3,4,5,6,7,8,9,10,11,12,13,14,15,31] [] (by kernel_rfl) rfl (fun K hK => ?_); simp -dsimp -implicitDefEqProofs only [go_sem, hid, i0, i1, i2, i3, i4, qa, n0, n1, n2, n3, n4, n5, q0, eq_self, ↓reduceIte]; (repeat' (first | (refine And.intro ?_ ?_) | (refine gs_both (fun hb => ?_) (fun hb => ?_) <;> (have hg := hb; (try simp only [nfb] at hg); simp -dsimp -implicitDefEqProofs only [go_sem, hid, i0, i1, i2, i3, i4, qa, n0, n1, n2, n3, n4, n5, q0, hb, hg, eq_self, ↓reduceIte]; clear hb; (try simp only [nfe] at hg))))); (all_goals (try omega))
          all_goals (try first | (cases L0 <;> rfl) | (cases L1 <;> rfl) | (cases L2 <;> rfl))
          refine hK _ _ _ _ ?_ (fun hx => ?_)
          · cases L0 <;> cases L1 <;> cases L2 <;> simp only [accRds, accDel, List.map_cons, List.map_nil] <;> exact drawA (fun i => i - k)
          clear hx hK
          have uU := zA @hid (zA @i0 (zA @i1 (zA @i2 (zA @i3 (zA @i4 (zA @qa (zA @n0 (zA @n1 (zA @n2 (zA @n3 (zA @n4 (zA @n5 @q0))))))))))))
          refine rR ?_ <;> first | exact hdT | apply zN
          skip
          refine S_drw rfl [0,2,3,4,5,6,7,8,9,10,11,12,13,14,15,31] [] (by kernel_rfl) rfl (fun K hK => ?_); simp -dsimp -implicitDefEqProofs only [go_sem, hid, i0, i1, i2, i3, i4, qa, n0, n1, n2, n3, n4, n5, q0, eq_self, ↓reduceIte]; (repeat' (first | (refine And.intro ?_ ?_) | (refine gs_both (fun hb => ?_) (fun hb => ?_) <;> (have hg := hb; (try simp only [nfb] at hg); simp -dsimp -implicitDefEqProofs only [go_sem, hid, i0, i1, i2, i3, i4, qa, n0, n1, n2, n3, n4, n5, q0, hb, hg, eq_self, ↓reduceIte]; clear hb; (try simp only [nfe] at hg))))); (all_goals (try omega))
          all_goals (try first | (cases L3 <;> rfl) | (cases L4 <;> rfl) | (cases L5 <;> rfl))
          refine hK _ _ _ _ ?_ (fun hx => ?_)
          · cases L3 <;> cases L4 <;> cases L5 <;> simp only [accRds, accDel, List.map_cons, List.map_nil] <;> exact drawA (fun i => i - k)
          clear hx hK
          refine rR ?_ <;> first | exact hdT | apply zN
          have kp : Kp [0,2,3,4,5,6,7,8,9,10,11,12,13,14,15,31] (fun i => i - k) := kpI
          refine wl ?_ <;> and_intros <;> first | exact hdT | (apply zM; (repeat intro ht); apply zM; (repeat intro hg); apply zM)
          refine ⟨(j + 1, acc ++ [.ck a b], at'), ⟨by simp only; omega, by simp only [List.length_append, List.length_cons, List.length_nil]; omega, by rw [hat]; exact h3⟩, by simp only; omega, ?_⟩
          simp only [h6, c6, m0, m1, m2, m3, m4, m5, show ((j + 1 : Nat) : Int) = (j : Int) + 1 by omega, tR, pR]
          refine rR ?_ <;> first | exact hdT | apply zN
          exact Mv.app (k + 9) (k + 2) ⟨by omega, by omega⟩ ⟨by omega, by omega⟩ (wk_low (by omega) (by simp -dsimp -implicitDefEqProofs only [go_sem, hid, i0, i1, i2, i3, i4, qa, n0, n1, n2, n3, n4, n5, q0, List.map_append, Flt.row, eq_self, ↓reduceIte]) (by simp -dsimp -implicitDefEqProofs only [go_sem, hid, i0, i1, i2, i3, i4, qa, n0, n1, n2, n3, n4, n5, q0, List.map_append, Flt.row, eq_self, ↓reduceIte]) (by simp -dsimp -implicitDefEqProofs only [go_sem, hid, i0, i1, i2, i3, i4, qa, n0, n1, n2, n3, n4, n5, q0, List.map_append, Flt.row, eq_self, ↓reduceIte]) (by simp -dsimp -implicitDefEqProofs only [go_sem, hid, i0, i1, i2, i3, i4, qa, n0, n1, n2, n3, n4, n5, q0, List.map_append, Flt.row, eq_self, ↓reduceIte]))
        | cu a b =>
          have n0 : d1.n0 = 0 := by rw [ed]; rfl
          have n1 : d1.n1 = 1 := by rw [ed]; rfl
          have n2 : d1.n2 = 0 := by rw [ed]; rfl
          have n3 : d1.n3 = 0 := by rw [ed]; rfl
          have n4 : d1.n4 = 0 := by rw [ed]; rfl
          have n5 : d1.n5 = 0 := by rw [ed]; rfl
          have q0 : d1.cu 0 = (a, b) := by rw [ed]; rfl
          have m0 : (dlE (acc ++ [.cu a b])).ck.map vlR = L0 := fmN e0 rfl
          have m1 : (dlE (acc ++ [.cu a b])).cu.map vlR = L1 ++ [[.lit (.int .i64 a), .lit (.int .i64 b)]] := fmY (x := (a, b)) e1 rfl
          have m2 : (dlE (acc ++ [.cu a b])).wg.map vlR = L2 := fmN e2 rfl
          have m3 : (dlE (acc ++ [.cu a b])).gn.map nR = L3 := fmN e3 rfl
          have m4 : (dlE (acc ++ [.cu a b])).tk.map tR = L4 := fmN e4 rfl
          have m5 : (dlE (acc ++ [.cu a b])).sp.map pR = L5 := fmN e5 rfl
          refine W_mv (Mv.wk (k1 := k + 9) (fr1 := [(9, .ptr (k + 8) 0 0), (6, .lit (.int .i64 at')), (14, .lit (.int .i64 (j : Int))), (13, .lit (.int .i64 (l.length : Int))), (12, .sl id 0 l.length), (5, .ptr (k + 1) 0 0), (4, .lit (.int .i64 0)), (3, .lit (.int .i64 0)), (2, .ptr k 0 0), (0, .sl id 0 l.length)]) (H1 := (accH (k + 3) 2 L1 (accH (k + 2) 2 L0 (accH (k + 4) 2 L2 (accH (k + 5) 1 L3 (accH (k + 6) 8 L4 (accH (k + 7) 5 L5 [(k + 8, ⟨6, true, [d1.cells]⟩), (k + 1, ⟨6, false, [[accV (k + 2) L0, accV (k + 3) L1, accV (k + 4) L2, accV (k + 5) L3, accV (k + 6) L4, accV (k + 7) L5]]⟩), (k, ⟨6, true, [nil6]⟩), (id, ⟨1, true, A⟩)]))))))) (wk_low (by omega) (by simp -dsimp -implicitDefEqProofs only [go_sem, hid, i0, i1, i2, i3, i4, qa, n0, n1, n2, n3, n4, n5, q0, List.map_append, Flt.row, eq_self, ↓reduceIte]) (by simp -dsimp -implicitDefEqProofs only [go_sem, hid, i0, i1, i2, i3, i4, qa, n0, n1, n2, n3, n4, n5, q0, List.map_append, Flt.row, eq_self, ↓reduceIte]) (by simp -dsimp -implicitDefEqProofs only [go_sem, hid, i0, i1, i2, i3, i4, qa, n0, n1, n2, n3, n4, n5, q0, List.map_append, Flt.row, eq_self, ↓reduceIte]) (by simp -dsimp -implicitDefEqProofs only [go_sem, hid, i0, i1, i2, i3, i4, qa, n0, n1, n2, n3, n4, n5, q0, List.map_append, Flt.row, eq_self, ↓reduceIte]))) ?_
          refine S_drw rfl [0,2,3,4,5,6,7,8,9,10,11,12,13,14,15,31] [] (by kernel_rfl) rfl (fun K hK => ?_); simp -dsimp -implicitDefEqProofs only [go_sem, hid, i0, i1, i2, i3, i4, qa, n0, n1, n2, n3, n4, n5, q0, eq_self, ↓reduceIte]; (repeat' (first | (refine And.intro ?_ ?_) | (refine gs_both (fun hb => ?_) (fun hb => ?_) <;> (have hg := hb; (try simp only [nfb] at hg); simp -dsimp -implicitDefEqProofs only [go_sem, hid, i0, i1, i2, i3, i4, qa, n0, n1, n2, n3, n4, n5, q0, hb, hg, eq_self, ↓reduceIte]; clear hb; (try simp only [nfe] at hg))))); (all_goals (try omega))
          all_goals (try first | (cases L0 <;> rfl) | (cases L1 <;> rfl) | (cases L2 <;> rfl))
          refine hK _ _ _ _ ?_ (fun hx => ?_)
          · cases L0 <;> cases L1 <;> cases L2 <;> simp only [accRds, accDel, List.map_cons, List.map_nil] <;> exact drawA (fun i => i - k)
          clear hx hK
          have uU := zA @hid (zA @i0 (zA @i1 (zA @i2 (zA @i3 (zA @i4 (zA @qa (zA @n0 (zA @n1 (zA @n2 (zA @n3 (zA @n4 (zA @n5 @q0))))))))))))
          refine rR ?_ <;> first | exact hdT | apply zN
          skip
          refine S_drw rfl [0,2,3,4,5,6,7,8,9,10,11,12,13,14,15,31] [] (by kernel_rfl) rfl (fun K hK => ?_); simp -dsimp -implicitDefEqProofs only [go_sem, hid, i0, i1, i2, i3, i4, qa, n0, n1, n2, n3, n4, n5, q0, eq_self, ↓reduceIte]; (repeat' (first | (refine And.intro ?_ ?_) | (refine gs_both (fun hb => ?_) (fun hb => ?_) <;> (have hg := hb; (try simp only [nfb] at hg); simp -dsimp -implicitDefEqProofs only [go_sem, hid, i0, i1, i2, i3, i4, qa, n0, n1, n2, n3, n4, n5, q0, hb, hg, eq_self, ↓reduceIte]; clear hb; (try simp only [nfe] at hg))))); (all_goals (try omega))
          all_goals (try first | (cases L3 <;> rfl) | (cases L4 <;> rfl) | (cases L5 <;> rfl))
          refine hK _ _ _ _ ?_ (fun hx => ?_)
          · cases L3 <;> cases L4 <;> cases L5 <;> simp only [accRds, accDel, List.map_cons, List.map_nil] <;> exact drawA (fun i => i - k)
          clear hx hK
          refine rR ?_ <;> first | exact hdT | apply zN
          have kp : Kp [0,2,3,4,5,6,7,8,9,10,11,12,13,14,15,31] (fun i => i - k) := kpI
          refine wl ?_ <;> and_intros <;> first | exact hdT | (apply zM; (repeat intro ht); apply zM; (repeat intro hg); apply zM)
          refine ⟨(j + 1, acc ++ [.cu a b], at'), ⟨by simp only; omega, by simp only [List.length_append, List.length_cons, List.length_nil]; omega, by rw [hat]; exact h3⟩, by simp only; omega, ?_⟩
          simp only [h6, c6, m0, m1, m2, m3, m4, m5, show ((j + 1 : Nat) : Int) = (j : Int) + 1 by omega, tR, pR]
          refine rR ?_ <;> first | exact hdT | apply zN
          exact Mv.app (k + 9) (k + 3) ⟨by omega, by omega⟩ ⟨by omega, by omega⟩ (wk_low (by omega) (by simp -dsimp -implicitDefEqProofs only [go_sem, hid, i0, i1, i2, i3, i4, qa, n0, n1, n2, n3, n4, n5, q0, List.map_append, Flt.row, eq_self, ↓reduceIte]) (by simp -dsimp -implicitDefEqProofs only [go_sem, hid, i0, i1, i2, i3, i4, qa, n0, n1, n2, n3, n4, n5, q0, List.map_append, Flt.row, eq_self, ↓reduceIte]) (by simp -dsimp -implicitDefEqProofs only [go_sem, hid, i0, i1, i2, i3, i4, qa, n0, n1, n2, n3, n4, n5, q0, List.map_append, Flt.row, eq_self, ↓reduceIte]) (by simp -dsimp -implicitDefEqProofs only [go_sem, hid, i0, i1, i2, i3, i4, qa, n0, n1, n2, n3, n4, n5, q0, List.map_append, Flt.row, eq_self, ↓reduceIte]))
        | wg a b =>
          have n0 : d1.n0 = 0 := by rw [ed]; rfl
          have n1 : d1.n1 = 0 := by rw [ed]; rfl
          have n2 : d1.n2 = 1 := by rw [ed]; rfl
          have n3 : d1.n3 = 0 := by rw [ed]; rfl
          have n4 : d1.n4 = 0 := by rw [ed]; rfl
          have n5 : d1.n5 = 0 := by rw [ed]; rfl
          have q0 : d1.wg 0 = (a, b) := by rw [ed]; rfl
          have m0 : (dlE (acc ++ [.wg a b])).ck.map vlR = L0 := fmN e0 rfl
          have m1 : (dlE (acc ++ [.wg a b])).cu.map vlR = L1 := fmN e1 rfl
          have m2 : (dlE (acc ++ [.wg a b])).wg.map vlR = L2 ++ [[.lit (.int .i64 a), .lit (.int .i64 b)]] := fmY (x := (a, b)) e2 rfl
          have m3 : (dlE (acc ++ [.wg a b])).gn.map nR = L3 := fmN e3 rfl
          have m4 : (dlE (acc ++ [.wg a b])).tk.map tR = L4 := fmN e4 rfl
          have m5 : (dlE (acc ++ [.wg a b])).sp.map pR = L5 := fmN e5 rfl
          refine W_mv (Mv.wk (k1 := k + 9) (fr1 := [(9, .ptr (k + 8) 0 0), (6, .lit (.int .i64 at')), (14, .lit (.int .i64 (j : Int))), (13, .lit (.int .i64 (l.length : Int))), (12, .sl id 0 l.length), (5, .ptr (k + 1) 0 0), (4, .lit (.int .i64 0)), (3, .lit (.int .i64 0)), (2, .ptr k 0 0), (0, .sl id 0 l.length)]) (H1 := (accH (k + 4) 2 L2 (accH (k + 2) 2 L0 (accH (k + 3) 2 L1 (accH (k + 5) 1 L3 (accH (k + 6) 8 L4 (accH (k + 7) 5 L5 [(k + 8, ⟨6, true, [d1.cells]⟩), (k + 1, ⟨6, false, [[accV (k + 2) L0, accV (k + 3) L1, accV (k + 4) L2, accV (k + 5) L3, accV (k + 6) L4, accV (k + 7) L5]]⟩), (k, ⟨6, true, [nil6]⟩), (id, ⟨1, true, A⟩)]))))))) (wk_low (by omega) (by simp -dsimp -implicitDefEqProofs only [go_sem, hid, i0, i1, i2, i3, i4, qa, n0, n1, n2, n3, n4, n5, q0, List.map_append, Flt.row, eq_self, ↓reduceIte]) (by simp -dsimp -implicitDefEqProofs only [go_sem, hid, i0, i1, i2, i3, i4, qa, n0, n1, n2, n3, n4, n5, q0, List.map_append, Flt.row, eq_self, ↓reduceIte]) (by simp -dsimp -implicitDefEqProofs only [go_sem, hid, i0, i1, i2, i3, i4, qa, n0, n1, n2, n3, n4, n5, q0, List.map_append, Flt.row, eq_self, ↓reduceIte]) (by simp -dsimp -implicitDefEqProofs only [go_sem, hid, i0, i1, i2, i3, i4, qa, n0, n1, n2, n3, n4, n5, q0, List.map_append, Flt.row, eq_self, ↓reduceIte]))) ?_
          refine S_drw rfl [0,2,3,4,5,6,7,8,9,10,11,12,13,14,15,31] [] (by kernel_rfl) rfl (fun K hK => ?_); simp -dsimp -implicitDefEqProofs only [go_sem, hid, i0, i1, i2, i3, i4, qa, n0, n1, n2, n3, n4, n5, q0, eq_self, ↓reduceIte]; (repeat' (first | (refine And.intro ?_ ?_) | (refine gs_both (fun hb => ?_) (fun hb => ?_) <;> (have hg := hb; (try simp only [nfb] at hg); simp -dsimp -implicitDefEqProofs only [go_sem, hid, i0, i1, i2, i3, i4, qa, n0, n1, n2, n3, n4, n5, q0, hb, hg, eq_self, ↓reduceIte]; clear hb; (try simp only [nfe] at hg))))); (all_goals (try omega))
          all_goals (try first | (cases L0 <;> rfl) | (cases L1 <;> rfl) | (cases L2 <;> rfl))
          refine hK _ _ _ _ ?_ (fun hx => ?_)
          · cases L0 <;> cases L1 <;> cases L2 <;> simp only [accRds, accDel, List.map_cons, List.map_nil] <;> exact drawA (fun i => i - k)
          clear hx hK
          have uU := zA @hid (zA @i0 (zA @i1 (zA @i2 (zA @i3 (zA @i4 (zA @qa (zA @n0 (zA @n1 (zA @n2 (zA @n3 (zA @n4 (zA @n5 @q0))))))))))))
          refine rR ?_ <;> first | exact hdT | apply zN
          skip
          refine S_drw rfl [0,2,3,4,5,6,7,8,9,10,11,12,13,14,15,31] [] (by kernel_rfl) rfl (fun K hK => ?_); simp -dsimp -implicitDefEqProofs only [go_sem, hid, i0, i1, i2, i3, i4, qa, n0, n1, n2, n3, n4, n5, q0, eq_self, ↓reduceIte]; (repeat' (first | (refine And.intro ?_ ?_) | (refine gs_both (fun hb => ?_) (fun hb => ?_) <;> (have hg := hb; (try simp only [nfb] at hg); simp -dsimp -implicitDefEqProofs only [go_sem, hid, i0, i1, i2, i3, i4, qa, n0, n1, n2, n3, n4, n5, q0, hb, hg, eq_self, ↓reduceIte]; clear hb; (try simp only [nfe] at hg))))); (all_goals (try omega))
          all_goals (try first | (cases L3 <;> rfl) | (cases L4 <;> rfl) | (cases L5 <;> rfl))
          refine hK _ _ _ _ ?_ (fun hx => ?_)
          · cases L3 <;> cases L4 <;> cases L5 <;> simp only [accRds, accDel, List.map_cons, List.map_nil] <;> exact drawA (fun i => i - k)
          clear hx hK
          refine rR ?_ <;> first | exact hdT | apply zN
          have kp : Kp [0,2,3,4,5,6,7,8,9,10,11,12,13,14,15,31] (fun i => i - k) := kpI
          refine wl ?_ <;> and_intros <;> first | exact hdT | (apply zM; (repeat intro ht); apply zM; (repeat intro hg); apply zM)
          refine ⟨(j + 1, acc ++ [.wg a b], at'), ⟨by simp only; omega, by simp only [List.length_append, List.length_cons, List.length_nil]; omega, by rw [hat]; exact h3⟩, by simp only; omega, ?_⟩
          simp only [h6, c6, m0, m1, m2, m3, m4, m5, show ((j + 1 : Nat) : Int) = (j : Int) + 1 by omega, tR, pR]
          refine rR ?_ <;> first | exact hdT | apply zN
          exact Mv.app (k + 9) (k + 4) ⟨by omega, by omega⟩ ⟨by omega, by omega⟩ (wk_low (by omega) (by simp -dsimp -implicitDefEqProofs only [go_sem, hid, i0, i1, i2, i3, i4, qa, n0, n1, n2, n3, n4, n5, q0, List.map_append, Flt.row, eq_self, ↓reduceIte]) (by simp -dsimp -implicitDefEqProofs only [go_sem, hid, i0, i1, i2, i3, i4, qa, n0, n1, n2, n3, n4, n5, q0, List.map_append, Flt.row, eq_self, ↓reduceIte]) (by simp -dsimp -implicitDefEqProofs only [go_sem, hid, i0, i1, i2, i3, i4, qa, n0, n1, n2, n3, n4, n5, q0, List.map_append, Flt.row, eq_self, ↓reduceIte]) (by simp -dsimp -implicitDefEqProofs only [go_sem, hid, i0, i1, i2, i3, i4, qa, n0, n1, n2, n3, n4, n5, q0, List.map_append, Flt.row, eq_self, ↓reduceIte]))
        | gn a =>
          have n0 : d1.n0 = 0 := by rw [ed]; rfl
          have n1 : d1.n1 = 0 := by rw [ed]; rfl
          have n2 : d1.n2 = 0 := by rw [ed]; rfl
          have n3 : d1.n3 = 1 := by rw [ed]; rfl
          have n4 : d1.n4 = 0 := by rw [ed]; rfl
          have n5 : d1.n5 = 0 := by rw [ed]; rfl
          have q0 : d1.gn 0 = a := by rw [ed]; rfl
          have m0 : (dlE (acc ++ [.gn a])).ck.map vlR = L0 := fmN e0 rfl
          have m1 : (dlE (acc ++ [.gn a])).cu.map vlR = L1 := fmN e1 rfl
          have m2 : (dlE (acc ++ [.gn a])).wg.map vlR = L2 := fmN e2 rfl
          have m3 : (dlE (acc ++ [.gn a])).gn.map nR = L3 ++ [[.lit (.int .i64 a)]] := fmY e3 rfl
          have m4 : (dlE (acc ++ [.gn a])).tk.map tR = L4 := fmN e4 rfl
          have m5 : (dlE (acc ++ [.gn a])).sp.map pR = L5 := fmN e5 rfl
          refine W_mv (Mv.wk (k1 := k + 9) (fr1 := [(9, .ptr (k + 8) 0 0), (6, .lit (.int .i64 at')), (14, .lit (.int .i64 (j : Int))), (13, .lit (.int .i64 (l.length : Int))), (12, .sl id 0 l.length), (5, .ptr (k + 1) 0 0), (4, .lit (.int .i64 0)), (3, .lit (.int .i64 0)), (2, .ptr k 0 0), (0, .sl id 0 l.length)]) (H1 := (accH (k + 5) 1 L3 (accH (k + 2) 2 L0 (accH (k + 3) 2 L1 (accH (k + 4) 2 L2 (accH (k + 6) 8 L4 (accH (k + 7) 5 L5 [(k + 8, ⟨6, true, [d1.cells]⟩), (k + 1, ⟨6, false, [[accV (k + 2) L0, accV (k + 3) L1, accV (k + 4) L2, accV (k + 5) L3, accV (k + 6) L4, accV (k + 7) L5]]⟩), (k, ⟨6, true, [nil6]⟩), (id, ⟨1, true, A⟩)]))))))) (wk_low (by omega) (by simp -dsimp -implicitDefEqProofs only [go_sem, hid, i0, i1, i2, i3, i4, qa, n0, n1, n2, n3, n4, n5, q0, List.map_append, Flt.row, eq_self, ↓reduceIte]) (by simp -dsimp -implicitDefEqProofs only [go_sem, hid, i0, i1, i2, i3, i4, qa, n0, n1, n2, n3, n4, n5, q0, List.map_append, Flt.row, eq_self, ↓reduceIte]) (by simp -dsimp -implicitDefEqProofs only [go_sem, hid, i0, i1, i2, i3, i4, qa, n0, n1, n2, n3, n4, n5, q0, List.map_append, Flt.row, eq_self, ↓reduceIte]) (by simp -dsimp -implicitDefEqProofs only [go_sem, hid, i0, i1, i2, i3, i4, qa, n0, n1, n2, n3, n4, n5, q0, List.map_append, Flt.row, eq_self, ↓reduceIte]))) ?_
          refine S_drw rfl [0,2,3,4,5,6,7,8,9,10,11,12,13,14,15,31] [] (by kernel_rfl) rfl (fun K hK => ?_); simp -dsimp -implicitDefEqProofs only [go_sem, hid, i0, i1, i2, i3, i4, qa, n0, n1, n2, n3, n4, n5, q0, eq_self, ↓reduceIte]; (repeat' (first | (refine And.intro ?_ ?_) | (refine gs_both (fun hb => ?_) (fun hb => ?_) <;> (have hg := hb; (try simp only [nfb] at hg); simp -dsimp -implicitDefEqProofs only [go_sem, hid, i0, i1, i2, i3, i4, qa, n0, n1, n2, n3, n4, n5, q0, hb, hg, eq_self, ↓reduceIte]; clear hb; (try simp only [nfe] at hg))))); (all_goals (try omega))
          all_goals (try first | (cases L0 <;> rfl) | (cases L1 <;> rfl) | (cases L2 <;> rfl))
          refine hK _ _ _ _ ?_ (fun hx => ?_)
          · cases L0 <;> cases L1 <;> cases L2 <;> simp only [accRds, accDel, List.map_cons, List.map_nil] <;> exact drawA (fun i => i - k)
          clear hx hK
          have uU := zA @hid (zA @i0 (zA @i1 (zA @i2 (zA @i3 (zA @i4 (zA @qa (zA @n0 (zA @n1 (zA @n2 (zA @n3 (zA @n4 (zA @n5 @q0))))))))))))
          refine rR ?_ <;> first | exact hdT | apply zN
          skip
          refine S_drw rfl [0,2,3,4,5,6,7,8,9,10,11,12,13,14,15,31] [] (by kernel_rfl) rfl (fun K hK => ?_); simp -dsimp -implicitDefEqProofs only [go_sem, hid, i0, i1, i2, i3, i4, qa, n0, n1, n2, n3, n4, n5, q0, eq_self, ↓reduceIte]; (repeat' (first | (refine And.intro ?_ ?_) | (refine gs_both (fun hb => ?_) (fun hb => ?_) <;> (have hg := hb; (try simp only [nfb] at hg); simp -dsimp -implicitDefEqProofs only [go_sem, hid, i0, i1, i2, i3, i4, qa, n0, n1, n2, n3, n4, n5, q0, hb, hg, eq_self, ↓reduceIte]; clear hb; (try simp only [nfe] at hg))))); (all_goals (try omega))
          all_goals (try first | (cases L3 <;> rfl) | (cases L4 <;> rfl) | (cases L5 <;> rfl))
          refine hK _ _ _ _ ?_ (fun hx => ?_)
          · cases L3 <;> cases L4 <;> cases L5 <;> simp only [accRds, accDel, List.map_cons, List.map_nil] <;> exact drawA (fun i => i - k)
          clear hx hK
          refine rR ?_ <;> first | exact hdT | apply zN
          have kp : Kp [0,2,3,4,5,6,7,8,9,10,11,12,13,14,15,31] (fun i => i - k) := kpI
          refine wl ?_ <;> and_intros <;> first | exact hdT | (apply zM; (repeat intro ht); apply zM; (repeat intro hg); apply zM)
          refine ⟨(j + 1, acc ++ [.gn a], at'), ⟨by simp only; omega, by simp only [List.length_append, List.length_cons, List.length_nil]; omega, by rw [hat]; exact h3⟩, by simp only; omega, ?_⟩
          simp only [h6, c6, m0, m1, m2, m3, m4, m5, show ((j + 1 : Nat) : Int) = (j : Int) + 1 by omega, tR, pR]
          refine rR ?_ <;> first | exact hdT | apply zN
          exact Mv.app (k + 9) (k + 5) ⟨by omega, by omega⟩ ⟨by omega, by omega⟩ (wk_low (by omega) (by simp -dsimp -implicitDefEqProofs only [go_sem, hid, i0, i1, i2, i3, i4, qa, n0, n1, n2, n3, n4, n5, q0, List.map_append, Flt.row, eq_self, ↓reduceIte]) (by simp -dsimp -implicitDefEqProofs only [go_sem, hid, i0, i1, i2, i3, i4, qa, n0, n1, n2, n3, n4, n5, q0, List.map_append, Flt.row, eq_self, ↓reduceIte]) (by simp -dsimp -implicitDefEqProofs only [go_sem, hid, i0, i1, i2, i3, i4, qa, n0, n1, n2, n3, n4, n5, q0, List.map_append, Flt.row, eq_self, ↓reduceIte]) (by simp -dsimp -implicitDefEqProofs only [go_sem, hid, i0, i1, i2, i3, i4, qa, n0, n1, n2, n3, n4, n5, q0, List.map_append, Flt.row, eq_self, ↓reduceIte]))
        | tk x =>
          have n0 : d1.n0 = 0 := by rw [ed]; rfl
          have n1 : d1.n1 = 0 := by rw [ed]; rfl
          have n2 : d1.n2 = 0 := by rw [ed]; rfl
          have n3 : d1.n3 = 0 := by rw [ed]; rfl
          have n4 : d1.n4 = 1 := by rw [ed]; rfl
          have n5 : d1.n5 = 0 := by rw [ed]; rfl
          have q0 : d1.tk 0 = x := by rw [ed]; rfl
          have m0 : (dlE (acc ++ [.tk x])).ck.map vlR = L0 := fmN e0 rfl
          have m1 : (dlE (acc ++ [.tk x])).cu.map vlR = L1 := fmN e1 rfl
          have m2 : (dlE (acc ++ [.tk x])).wg.map vlR = L2 := fmN e2 rfl
          have m3 : (dlE (acc ++ [.tk x])).gn.map nR = L3 := fmN e3 rfl
          have m4 : (dlE (acc ++ [.tk x])).tk.map tR = L4 ++ [tR x] := fmY e4 rfl
          have m5 : (dlE (acc ++ [.tk x])).sp.map pR = L5 := fmN e5 rfl
          refine W_mv (Mv.wk (k1 := k + 9) (fr1 := [(9, .ptr (k + 8) 0 0), (6, .lit (.int .i64 at')), (14, .lit (.int .i64 (j : Int))), (13, .lit (.int .i64 (l.length : Int))), (12, .sl id 0 l.length), (5, .ptr (k + 1) 0 0), (4, .lit (.int .i64 0)), (3, .lit (.int .i64 0)), (2, .ptr k 0 0), (0, .sl id 0 l.length)]) (H1 := (accH (k + 6) 8 L4 (accH (k + 2) 2 L0 (accH (k + 3) 2 L1 (accH (k + 4) 2 L2 (accH (k + 5) 1 L3 (accH (k + 7) 5 L5 [(k + 8, ⟨6, true, [d1.cells]⟩), (k + 1, ⟨6, false, [[accV (k + 2) L0, accV (k + 3) L1, accV (k + 4) L2, accV (k + 5) L3, accV (k + 6) L4, accV (k + 7) L5]]⟩), (k, ⟨6, true, [nil6]⟩), (id, ⟨1, true, A⟩)]))))))) (wk_low (by omega) (by simp -dsimp -implicitDefEqProofs only [go_sem, hid, i0, i1, i2, i3, i4, qa, n0, n1, n2, n3, n4, n5, q0, List.map_append, Flt.row, eq_self, ↓reduceIte]) (by simp -dsimp -implicitDefEqProofs only [go_sem, hid, i0, i1, i2, i3, i4, qa, n0, n1, n2, n3, n4, n5, q0, List.map_append, Flt.row, eq_self, ↓reduceIte]) (by simp -dsimp -implicitDefEqProofs only [go_sem, hid, i0, i1, i2, i3, i4, qa, n0, n1, n2, n3, n4, n5, q0, List.map_append, Flt.row, eq_self, ↓reduceIte]) (by simp -dsimp -implicitDefEqProofs only [go_sem, hid, i0, i1, i2, i3, i4, qa, n0, n1, n2, n3, n4, n5, q0, List.map_append, Flt.row, eq_self, ↓reduceIte]))) ?_
          refine S_drw rfl [0,2,3,4,5,6,7,8,9,10,11,12,13,14,15,31] [] (by kernel_rfl) rfl (fun K hK => ?_); simp -dsimp -implicitDefEqProofs only [go_sem, hid, i0, i1, i2, i3, i4, qa, n0, n1, n2, n3, n4, n5, q0, eq_self, ↓reduceIte]; (repeat' (first | (refine And.intro ?_ ?_) | (refine gs_both (fun hb => ?_) (fun hb => ?_) <;> (have hg := hb; (try simp only [nfb] at hg); simp -dsimp -implicitDefEqProofs only [go_sem, hid, i0, i1, i2, i3, i4, qa, n0, n1, n2, n3, n4, n5, q0, hb, hg, eq_self, ↓reduceIte]; clear hb; (try simp only [nfe] at hg))))); (all_goals (try omega))
          all_goals (try first | (cases L0 <;> rfl) | (cases L1 <;> rfl) | (cases L2 <;> rfl))
          refine hK _ _ _ _ ?_ (fun hx => ?_)
          · cases L0 <;> cases L1 <;> cases L2 <;> simp only [accRds, accDel, List.map_cons, List.map_nil] <;> exact drawA (fun i => i - k)
          clear hx hK
          have uU := zA @hid (zA @i0 (zA @i1 (zA @i2 (zA @i3 (zA @i4 (zA @qa (zA @n0 (zA @n1 (zA @n2 (zA @n3 (zA @n4 (zA @n5 @q0))))))))))))
          refine rR ?_ <;> first | exact hdT | apply zN
          skip
          refine S_drw rfl [0,2,3,4,5,6,7,8,9,10,11,12,13,14,15,31] [] (by kernel_rfl) rfl (fun K hK => ?_); simp -dsimp -implicitDefEqProofs only [go_sem, hid, i0, i1, i2, i3, i4, qa, n0, n1, n2, n3, n4, n5, q0, eq_self, ↓reduceIte]; (repeat' (first | (refine And.intro ?_ ?_) | (refine gs_both (fun hb => ?_) (fun hb => ?_) <;> (have hg := hb; (try simp only [nfb] at hg); simp -dsimp -implicitDefEqProofs only [go_sem, hid, i0, i1, i2, i3, i4, qa, n0, n1, n2, n3, n4, n5, q0, hb, hg, eq_self, ↓reduceIte]; clear hb; (try simp only [nfe] at hg))))); (all_goals (try omega))
          all_goals (try first | (cases L3 <;> rfl) | (cases L4 <;> rfl) | (cases L5 <;> rfl))
          refine hK _ _ _ _ ?_ (fun hx => ?_)
          · cases L3 <;> cases L4 <;> cases L5 <;> simp only [accRds, accDel, List.map_cons, List.map_nil] <;> exact drawA (fun i => i - k)
          clear hx hK
          refine rR ?_ <;> first | exact hdT | apply zN
          have kp : Kp [0,2,3,4,5,6,7,8,9,10,11,12,13,14,15,31] (fun i => i - k) := kpI
          refine wl ?_ <;> and_intros <;> first | exact hdT | (apply zM; (repeat intro ht); apply zM; (repeat intro hg); apply zM)
          refine ⟨(j + 1, acc ++ [.tk x], at'), ⟨by simp only; omega, by simp only [List.length_append, List.length_cons, List.length_nil]; omega, by rw [hat]; exact h3⟩, by simp only; omega, ?_⟩
          simp only [h6, c6, m0, m1, m2, m3, m4, m5, show ((j + 1 : Nat) : Int) = (j : Int) + 1 by omega, tR, pR]
          refine rR ?_ <;> first | exact hdT | apply zN
          exact Mv.app (k + 9) (k + 6) ⟨by omega, by omega⟩ ⟨by omega, by omega⟩ (wk_low (by omega) (by simp -dsimp -implicitDefEqProofs only [go_sem, hid, i0, i1, i2, i3, i4, qa, n0, n1, n2, n3, n4, n5, q0, List.map_append, Flt.row, eq_self, ↓reduceIte]) (by simp -dsimp -implicitDefEqProofs only [go_sem, hid, i0, i1, i2, i3, i4, qa, n0, n1, n2, n3, n4, n5, q0, List.map_append, Flt.row, eq_self, ↓reduceIte]) (by simp -dsimp -implicitDefEqProofs only [go_sem, hid, i0, i1, i2, i3, i4, qa, n0, n1, n2, n3, n4, n5, q0, List.map_append, Flt.row, eq_self, ↓reduceIte]) (by simp -dsimp -implicitDefEqProofs only [go_sem, hid, i0, i1, i2, i3, i4, qa, n0, n1, n2, n3, n4, n5, q0, List.map_append, Flt.row, eq_self, ↓reduceIte]))
        | sp g c p =>
          have n0 : d1.n0 = 0 := by rw [ed]; rfl
          have n1 : d1.n1 = 0 := by rw [ed]; rfl
          have n2 : d1.n2 = 0 := by rw [ed]; rfl
          have n3 : d1.n3 = 0 := by rw [ed]; rfl
          have n4 : d1.n4 = 0 := by rw [ed]; rfl
          have n5 : d1.n5 = 1 := by rw [ed]; rfl
          have q0 : d1.sp 0 = (g, c, p) := by rw [ed]; rfl
          have m0 : (dlE (acc ++ [.sp g c p])).ck.map vlR = L0 := fmN e0 rfl
          have m1 : (dlE (acc ++ [.sp g c p])).cu.map vlR = L1 := fmN e1 rfl
          have m2 : (dlE (acc ++ [.sp g c p])).wg.map vlR = L2 := fmN e2 rfl
          have m3 : (dlE (acc ++ [.sp g c p])).gn.map nR = L3 := fmN e3 rfl
          have m4 : (dlE (acc ++ [.sp g c p])).tk.map tR = L4 := fmN e4 rfl
          have m5 : (dlE (acc ++ [.sp g c p])).sp.map pR = L5 ++ [pR (g, c, p)] := fmY e5 rfl
          refine W_mv (Mv.wk (k1 := k + 9) (fr1 := [(9, .ptr (k + 8) 0 0), (6, .lit (.int .i64 at')), (14, .lit (.int .i64 (j : Int))), (13, .lit (.int .i64 (l.length : Int))), (12, .sl id 0 l.length), (5, .ptr (k + 1) 0 0), (4, .lit (.int .i64 0)), (3, .lit (.int .i64 0)), (2, .ptr k 0 0), (0, .sl id 0 l.length)]) (H1 := (accH (k + 7) 5 L5 (accH (k + 2) 2 L0 (accH (k + 3) 2 L1 (accH (k + 4) 2 L2 (accH (k + 5) 1 L3 (accH (k + 6) 8 L4 [(k + 8, ⟨6, true, [d1.cells]⟩), (k + 1, ⟨6, false, [[accV (k + 2) L0, accV (k + 3) L1, accV (k + 4) L2, accV (k + 5) L3, accV (k + 6) L4, accV (k + 7) L5]]⟩), (k, ⟨6, true, [nil6]⟩), (id, ⟨1, true, A⟩)]))))))) (wk_low (by omega) (by simp -dsimp -implicitDefEqProofs only [go_sem, hid, i0, i1, i2, i3, i4, qa, n0, n1, n2, n3, n4, n5, q0, List.map_append, Flt.row, eq_self, ↓reduceIte]) (by simp -dsimp -implicitDefEqProofs only [go_sem, hid, i0, i1, i2, i3, i4, qa, n0, n1, n2, n3, n4, n5, q0, List.map_append, Flt.row, eq_self, ↓reduceIte]) (by simp -dsimp -implicitDefEqProofs only [go_sem, hid, i0, i1, i2, i3, i4, qa, n0, n1, n2, n3, n4, n5, q0, List.map_append, Flt.row, eq_self, ↓reduceIte]) (by simp -dsimp -implicitDefEqProofs only [go_sem, hid, i0, i1, i2, i3, i4, qa, n0, n1, n2, n3, n4, n5, q0, List.map_append, Flt.row, eq_self, ↓reduceIte]))) ?_
          refine S_drw rfl [0,2,3,4,5,6,7,8,9,10,11,12,13,14,15,31] [] (by kernel_rfl) rfl (fun K hK => ?_); simp -dsimp -implicitDefEqProofs only [go_sem, hid, i0, i1, i2, i3, i4, qa, n0, n1, n2, n3, n4, n5, q0, eq_self, ↓reduceIte]; (repeat' (first | (refine And.intro ?_ ?_) | (refine gs_both (fun hb => ?_) (fun hb => ?_) <;> (have hg := hb; (try simp only [nfb] at hg); simp -dsimp -implicitDefEqProofs only [go_sem, hid, i0, i1, i2, i3, i4, qa, n0, n1, n2, n3, n4, n5, q0, hb, hg, eq_self, ↓reduceIte]; clear hb; (try simp only [nfe] at hg))))); (all_goals (try omega))
          all_goals (try first | (cases L0 <;> rfl) | (cases L1 <;> rfl) | (cases L2 <;> rfl))
          refine hK _ _ _ _ ?_ (fun hx => ?_)
          · cases L0 <;> cases L1 <;> cases L2 <;> simp only [accRds, accDel, List.map_cons, List.map_nil] <;> exact drawA (fun i => i - k)
          clear hx hK
          have uU := zA @hid (zA @i0 (zA @i1 (zA @i2 (zA @i3 (zA @i4 (zA @qa (zA @n0 (zA @n1 (zA @n2 (zA @n3 (zA @n4 (zA @n5 @q0))))))))))))
          refine rR ?_ <;> first | exact hdT | apply zN
          skip
          refine S_drw rfl [0,2,3,4,5,6,7,8,9,10,11,12,13,14,15,31] [] (by kernel_rfl) rfl (fun K hK => ?_); simp -dsimp -implicitDefEqProofs only [go_sem, hid, i0, i1, i2, i3, i4, qa, n0, n1, n2, n3, n4, n5, q0, eq_self, ↓reduceIte]; (repeat' (first | (refine And.intro ?_ ?_) | (refine gs_both (fun hb => ?_) (fun hb => ?_) <;> (have hg := hb; (try simp only [nfb] at hg); simp -dsimp -implicitDefEqProofs only [go_sem, hid, i0, i1, i2, i3, i4, qa, n0, n1, n2, n3, n4, n5, q0, hb, hg, eq_self, ↓reduceIte]; clear hb; (try simp only [nfe] at hg))))); (all_goals (try omega))
          all_goals (try first | (cases L3 <;> rfl) | (cases L4 <;> rfl) | (cases L5 <;> rfl))
          refine hK _ _ _ _ ?_ (fun hx => ?_)
          · cases L3 <;> cases L4 <;> cases L5 <;> simp only [accRds, accDel, List.map_cons, List.map_nil] <;> exact drawA (fun i => i - k)
          clear hx hK
          refine rR ?_ <;> first | exact hdT | apply zN
          have kp : Kp [0,2,3,4,5,6,7,8,9,10,11,12,13,14,15,31] (fun i => i - k) := kpI
          refine wl ?_ <;> and_intros <;> first | exact hdT | (apply zM; (repeat intro ht); apply zM; (repeat intro hg); apply zM)
          refine ⟨(j + 1, acc ++ [.sp g c p], at'), ⟨by simp only; omega, by simp only [List.length_append, List.length_cons, List.length_nil]; omega, by rw [hat]; exact h3⟩, by simp only; omega, ?_⟩
          simp only [h6, c6, m0, m1, m2, m3, m4, m5, show ((j + 1 : Nat) : Int) = (j : Int) + 1 by omega, tR, pR]
          refine rR ?_ <;> first | exact hdT | apply zN
          exact Mv.app (k + 9) (k + 7) ⟨by omega, by omega⟩ ⟨by omega, by omega⟩ (wk_low (by omega) (by simp -dsimp -implicitDefEqProofs only [go_sem, hid, i0, i1, i2, i3, i4, qa, n0, n1, n2, n3, n4, n5, q0, List.map_append, Flt.row, eq_self, ↓reduceIte]) (by simp -dsimp -implicitDefEqProofs only [go_sem, hid, i0, i1, i2, i3, i4, qa, n0, n1, n2, n3, n4, n5, q0, List.map_append, Flt.row, eq_self, ↓reduceIte]) (by simp -dsimp -implicitDefEqProofs only [go_sem, hid, i0, i1, i2, i3, i4, qa, n0, n1, n2, n3, n4, n5, q0, List.map_append, Flt.row, eq_self, ↓reduceIte]) (by simp -dsimp -implicitDefEqProofs only [go_sem, hid, i0, i1, i2, i3, i4, qa, n0, n1, n2, n3, n4, n5, q0, List.map_append, Flt.row, eq_self, ↓reduceIte]))
  · have hj : j = l.length := by omega
    have hZ : Z = (acc, -1, 0) := by rw [h3, hj, List.drop_length]; rfl
    obtain ⟨L0, e0⟩ : ∃ x, x = (dlE acc).ck.map vlR := ⟨_, rfl⟩
    obtain ⟨L1, e1⟩ : ∃ x, x = (dlE acc).cu.map vlR := ⟨_, rfl⟩
    obtain ⟨L2, e2⟩ : ∃ x, x = (dlE acc).wg.map vlR := ⟨_, rfl⟩
    obtain ⟨L3, e3⟩ : ∃ x, x = (dlE acc).gn.map nR := ⟨_, rfl⟩
    obtain ⟨L4, e4⟩ : ∃ x, x = (dlE acc).tk.map tR := ⟨_, rfl⟩
    obtain ⟨L5, e5⟩ : ∃ x, x = (dlE acc).sp.map pR := ⟨_, rfl⟩
    have hvl : VLes [rows 2 L0, rows 2 L1, rows 2 L2, rows 1 L3, rows 8 L4, rows 5 L5] d.cells := by
      rw [eD, hZ, e0, e1, e2, e3, e4, e5]
      exact .cons (rows_le _ _ _ _) (.cons (rows_le _ _ _ _) (.cons (rows_le _ _ _ _) (.cons (rows_le _ _ _ _) (.cons (rows_le _ _ _ _) (.cons (rows_le _ _ _ _) .nil)))))
    simp only [h6, c6]
    rw [← e0, ← e1, ← e2, ← e3, ← e4, ← e5]
    clear e0 e1 e2 e3 e4 e5
    have uU := zA @hid (zA @i0 (zA @i1 (zA @i2 (zA @i3 (zA @i4 @qa)))))
    refine rR ?_ <;> first | exact hdT | apply zN
    have kp : Kp [0,2,3,4,5,6,7,8,9,10,11,12,13,14,15,31] (fun i => i - k) := kpI
    refine wl ?_ <;> and_intros <;> first | exact hdT | (apply zM; (repeat intro ht); apply zM; (repeat intro hg); apply zM)
    · cases L0 <;> cases L1 <;> cases L2 <;> cases L3 <;> cases L4 <;> cases L5 <;> rfl
    refine W_mv (Mv.impure k (by simp -dsimp -implicitDefEqProofs only [go_sem, hid, i0, i1, i2, i3, i4, qa, eq_self, ↓reduceIte]; rfl)) ?_
    refine rR ?_ <;> first | exact hdT | apply zN
    refine W_mv (Mv.frz_row (id := k + 2) (s := 2) (D := k) (sz := 6) (l := L0) (row := [accV (k + 2) L0, accV (k + 3) L1, accV (k + 4) L2, accV (k + 5) L3, accV (k + 6) L4, accV (k + 7) L5]) 0 (rows 2 L0) [(4, .lit (.int .i64 0)), (3, .lit (.int .i64 (-1))), (2, .ptr k 0 0)] (accH (k + 3) 2 L1 (accH (k + 4) 2 L2 (accH (k + 5) 1 L3 (accH (k + 6) 8 L4 (accH (k + 7) 5 L5 [(id, ⟨1, true, A⟩)]))))) (by omega) (by simp -dsimp -implicitDefEqProofs only [go_sem, hid, i0, i1, i2, i3, i4, qa, List.map_append, Flt.row, eq_self, ↓reduceIte]) rfl (by simp -dsimp -implicitDefEqProofs only [go_sem, hid, i0, i1, i2, i3, i4, qa, List.map_append, Flt.row, eq_self, ↓reduceIte]) (VLe.refl _) (by simp -dsimp -implicitDefEqProofs only [go_sem, hid, i0, i1, i2, i3, i4, qa, List.map_append, Flt.row, eq_self, ↓reduceIte]) (by simp -dsimp -implicitDefEqProofs only [go_sem, hid, i0, i1, i2, i3, i4, qa, List.map_append, Flt.row, eq_self, ↓reduceIte]) (by simp -dsimp -implicitDefEqProofs only [go_sem, hid, i0, i1, i2, i3, i4, qa, List.map_append, Flt.row, eq_self, ↓reduceIte])) ?_
    refine W_mv (Mv.frz_row (id := k + 3) (s := 2) (D := k) (sz := 6) (l := L1) (row := [rows 2 L0, accV (k + 3) L1, accV (k + 4) L2, accV (k + 5) L3, accV (k + 6) L4, accV (k + 7) L5]) 1 (rows 2 L1) [(4, .lit (.int .i64 0)), (3, .lit (.int .i64 (-1))), (2, .ptr k 0 0)] (accH (k + 4) 2 L2 (accH (k + 5) 1 L3 (accH (k + 6) 8 L4 (accH (k + 7) 5 L5 [(id, ⟨1, true, A⟩)])))) (by omega) (by simp -dsimp -implicitDefEqProofs only [go_sem, hid, i0, i1, i2, i3, i4, qa, List.map_append, Flt.row, eq_self, ↓reduceIte]) rfl (by simp -dsimp -implicitDefEqProofs only [go_sem, hid, i0, i1, i2, i3, i4, qa, List.map_append, Flt.row, eq_self, ↓reduceIte]) (VLe.refl _) (by simp -dsimp -implicitDefEqProofs only [go_sem, hid, i0, i1, i2, i3, i4, qa, List.map_append, Flt.row, eq_self, ↓reduceIte]) (by simp -dsimp -implicitDefEqProofs only [go_sem, hid, i0, i1, i2, i3, i4, qa, List.map_append, Flt.row, eq_self, ↓reduceIte]) (by simp -dsimp -implicitDefEqProofs only [go_sem, hid, i0, i1, i2, i3, i4, qa, List.map_append, Flt.row, eq_self, ↓reduceIte])) ?_
    refine W_mv (Mv.frz_row (id := k + 4) (s := 2) (D := k) (sz := 6) (l := L2) (row := [rows 2 L0, rows 2 L1, accV (k + 4) L2, accV (k + 5) L3, accV (k + 6) L4, accV (k + 7) L5]) 2 (rows 2 L2) [(4, .lit (.int .i64 0)), (3, .lit (.int .i64 (-1))), (2, .ptr k 0 0)] (accH (k + 5) 1 L3 (accH (k + 6) 8 L4 (accH (k + 7) 5 L5 [(id, ⟨1, true, A⟩)]))) (by omega) (by simp -dsimp -implicitDefEqProofs only [go_sem, hid, i0, i1, i2, i3, i4, qa, List.map_append, Flt.row, eq_self, ↓reduceIte]) rfl (by simp -dsimp -implicitDefEqProofs only [go_sem, hid, i0, i1, i2, i3, i4, qa, List.map_append, Flt.row, eq_self, ↓reduceIte]) (VLe.refl _) (by simp -dsimp -implicitDefEqProofs only [go_sem, hid, i0, i1, i2, i3, i4, qa, List.map_append, Flt.row, eq_self, ↓reduceIte]) (by simp -dsimp -implicitDefEqProofs only [go_sem, hid, i0, i1, i2, i3, i4, qa, List.map_append, Flt.row, eq_self, ↓reduceIte]) (by simp -dsimp -implicitDefEqProofs only [go_sem, hid, i0, i1, i2, i3, i4, qa, List.map_append, Flt.row, eq_self, ↓reduceIte])) ?_
    refine W_mv (Mv.frz_row (id := k + 5) (s := 1) (D := k) (sz := 6) (l := L3) (row := [rows 2 L0, rows 2 L1, rows 2 L2, accV (k + 5) L3, accV (k + 6) L4, accV (k + 7) L5]) 3 (rows 1 L3) [(4, .lit (.int .i64 0)), (3, .lit (.int .i64 (-1))), (2, .ptr k 0 0)] (accH (k + 6) 8 L4 (accH (k + 7) 5 L5 [(id, ⟨1, true, A⟩)])) (by omega) (by simp -dsimp -implicitDefEqProofs only [go_sem, hid, i0, i1, i2, i3, i4, qa, List.map_append, Flt.row, eq_self, ↓reduceIte]) rfl (by simp -dsimp -implicitDefEqProofs only [go_sem, hid, i0, i1, i2, i3, i4, qa, List.map_append, Flt.row, eq_self, ↓reduceIte]) (VLe.refl _) (by simp -dsimp -implicitDefEqProofs only [go_sem, hid, i0, i1, i2, i3, i4, qa, List.map_append, Flt.row, eq_self, ↓reduceIte]) (by simp -dsimp -implicitDefEqProofs only [go_sem, hid, i0, i1, i2, i3, i4, qa, List.map_append, Flt.row, eq_self, ↓reduceIte]) (by simp -dsimp -implicitDefEqProofs only [go_sem, hid, i0, i1, i2, i3, i4, qa, List.map_append, Flt.row, eq_self, ↓reduceIte])) ?_
    refine W_mv (Mv.frz_row (id := k + 6) (s := 8) (D := k) (sz := 6) (l := L4) (row := [rows 2 L0, rows 2 L1, rows 2 L2, rows 1 L3, accV (k + 6) L4, accV (k + 7) L5]) 4 (rows 8 L4) [(4, .lit (.int .i64 0)), (3, .lit (.int .i64 (-1))), (2, .ptr k 0 0)] (accH (k + 7) 5 L5 [(id, ⟨1, true, A⟩)]) (by omega) (by simp -dsimp -implicitDefEqProofs only [go_sem, hid, i0, i1, i2, i3, i4, qa, List.map_append, Flt.row, eq_self, ↓reduceIte]) rfl (by simp -dsimp -implicitDefEqProofs only [go_sem, hid, i0, i1, i2, i3, i4, qa, List.map_append, Flt.row, eq_self, ↓reduceIte]) (VLe.refl _) (by simp -dsimp -implicitDefEqProofs only [go_sem, hid, i0, i1, i2, i3, i4, qa, List.map_append, Flt.row, eq_self, ↓reduceIte]) (by simp -dsimp -implicitDefEqProofs only [go_sem, hid, i0, i1, i2, i3, i4, qa, List.map_append, Flt.row, eq_self, ↓reduceIte]) (by simp -dsimp -implicitDefEqProofs only [go_sem, hid, i0, i1, i2, i3, i4, qa, List.map_append, Flt.row, eq_self, ↓reduceIte])) ?_
    refine W_mv (Mv.frz_row (id := k + 7) (s := 5) (D := k) (sz := 6) (l := L5) (row := [rows 2 L0, rows 2 L1, rows 2 L2, rows 1 L3, rows 8 L4, accV (k + 7) L5]) 5 (rows 5 L5) [(4, .lit (.int .i64 0)), (3, .lit (.int .i64 (-1))), (2, .ptr k 0 0)] [(id, ⟨1, true, A⟩)] (by omega) (by simp -dsimp -implicitDefEqProofs only [go_sem, hid, i0, i1, i2, i3, i4, qa, List.map_append, Flt.row, eq_self, ↓reduceIte]) rfl (by simp -dsimp -implicitDefEqProofs only [go_sem, hid, i0, i1, i2, i3, i4, qa, List.map_append, Flt.row, eq_self, ↓reduceIte]) (VLe.refl _) (by simp -dsimp -implicitDefEqProofs only [go_sem, hid, i0, i1, i2, i3, i4, qa, List.map_append, Flt.row, eq_self, ↓reduceIte]) (by simp -dsimp -implicitDefEqProofs only [go_sem, hid, i0, i1, i2, i3, i4, qa, List.map_append, Flt.row, eq_self, ↓reduceIte]) (by simp -dsimp -implicitDefEqProofs only [go_sem, hid, i0, i1, i2, i3, i4, qa, List.map_append, Flt.row, eq_self, ↓reduceIte])) ?_
    refine W_mv (Mv.row (l := []) (r := [rows 2 L0, rows 2 L1, rows 2 L2, rows 1 L3, rows 8 L4, rows 5 L5]) k d.cells (by rw [AM.look, if_pos rfl]; rfl) hvl rfl) ?_
    refine W_mv (Mv.wk (k1 := k + 1) (fr1 := [(4, .lit (.int .i64 0)), (3, .lit (.int .i64 (-1))), (2, .ptr k 0 0)]) (H1 := [(k, ⟨6, true, [d.cells]⟩), (id, ⟨1, true, A⟩)]) (wk_low (by omega) (by simp -dsimp -implicitDefEqProofs only [go_sem, hid, i0, i1, i2, i3, i4, qa, List.map_append, Flt.row, eq_self, ↓reduceIte]) (by simp -dsimp -implicitDefEqProofs only [go_sem, hid, i0, i1, i2, i3, i4, qa, List.map_append, Flt.row, eq_self, ↓reduceIte]) (by simp -dsimp -implicitDefEqProofs only [go_sem, hid, i0, i1, i2, i3, i4, qa, List.map_append, Flt.row, eq_self, ↓reduceIte]) (by simp -dsimp -implicitDefEqProofs only [go_sem, hid, i0, i1, i2, i3, i4, qa, List.map_append, Flt.row, eq_self, ↓reduceIte]))) ?_
    have uU := zA @hid (zA @i0 (zA @i1 (zA @i2 (zA @i3 (zA @i4 @qa))))); refine cR ?_; apply zN
    rw [hZ]
    exact VLe.refl _
end Go.Proofs.T
end
section
namespace Go.Proofs.T
open Go Go.AM Go.Proofs
set_option maxRecDepth 20000
variable {Γ : List (Nat × List AVal)}
attribute [local irreducible] putO del
attribute [go_sem] cpL_len
set_option maxHeartbeats 4000000 in
theorem turn_c (d : DE) (hd : d.size ≤ 100000) : AM.Pure Tryz.prog Γ 42 [.agg d.cells] (.agg d.cells) := by
  have hd' := hd
  unfold DE.size at hd
  refine Pure_at Tryz.func42 rfl 74 rfl (Nat.le_of_ble_eq_true rfl) rfl fun k => ?_
  have kp : Kp [0,1,2,3,5,7,9,11,18,19,20,21,32,33,34,35,46,47,48,49,60,61,62,63] (fun i => i - k) := kpI
  refine wl ?_ <;> and_intros <;> first | exact hdT | (apply zM; (repeat intro ht); apply zM; (repeat intro hg); apply zM)
  refine W_mv (Mv.impure (k + 2) (by simp -dsimp -implicitDefEqProofs only [go_sem, eq_self, ↓reduceIte]; rfl)) ?_
  refine rR ?_ <;> first | exact hdT | apply zN
  refine M_forO (X := Nat) rfl [0,1,2,3,5,7,9,11,18,19,20,21,32,33,34,35,46,47,48,49,60,61,62,63] (k + 4) (fun i => [(20, .lit (.int .i64 (i : Int)))]) (fun i => accH (k + 3) 2 (cpL d.f0 i) [(k + 2, ⟨6, false, [[accV (k + 3) (cpL d.f0 i), .lit (.slice none 0 0), .lit (.slice none 0 0), .rd 1 d.n3 d.f3, .rd 8 d.n4 d.f4, .lit (.slice none 0 0)]]⟩), (k + 1, ⟨6, true, [[.lit (.slice none 0 0), .lit (.slice none 0 0), .lit (.slice none 0 0), .lit (.slice none 0 0), .lit (.slice none 0 0), .lit (.slice none 0 0)]]⟩), (k, ⟨6, true, [d.cells]⟩)]) (fun i => i ≤ d.n0) (fun i => d.n0 - i) 0 ?_ (Nat.zero_le _) ?_
  · rw [cpL_zero]
    refine rR ?_ <;> first | exact hdT | apply zN
    exact wkF
  intro i hi
  obtain ⟨l, el, hl⟩ : ∃ x, x = cpL d.f0 i ∧ x.length = i := ⟨_, rfl, cpL_len _ _⟩
  rw [← el]
  refine rR ?_ <;> first | exact hdT | apply zN
  refine wl ?_ <;> and_intros <;> first | exact hdT | (apply zM; (repeat intro ht); apply zM; (repeat intro hg); apply zM)
  · refine ⟨i + 1, by omega, by omega, ?_⟩
    rw [cpL_succ, ← el]
    refine rR ?_ <;> first | exact hdT | apply zN
    exact Mv.app (k + 6) (k + 3) ⟨by omega, by omega⟩ ⟨by omega, by omega⟩ (wk_low (by omega) (by simp -dsimp -implicitDefEqProofs only [go_sem, List.map_append, Flt.row, eq_self, ↓reduceIte]) (by simp -dsimp -implicitDefEqProofs only [go_sem, List.map_append, Flt.row, eq_self, ↓reduceIte]) (by simp -dsimp -implicitDefEqProofs only [go_sem, List.map_append, Flt.row, eq_self, ↓reduceIte]) (by simp -dsimp -implicitDefEqProofs only [go_sem, List.map_append, Flt.row, eq_self, ↓reduceIte]))
  have hin : i = d.n0 := by omega
  subst hin
  refine W_mv (Mv.frz_row (id := k + 3) (s := 2) (D := k + 2) (sz := 6) (l := l) (row := [accV (k + 3) l, .lit (.slice none 0 0), .lit (.slice none 0 0), .rd 1 d.n3 d.f3, .rd 8 d.n4 d.f4, .lit (.slice none 0 0)]) 0 (.rd 2 d.n0 d.f0) [(34, .lit (.int .i64 0)), (33, .lit (.int .i64 (d.n1 : Int))), (32, .rd 2 d.n1 d.f1), (3, .ptr (k + 2) 0 0), (2, .ptr (k + 1) 0 0), (1, .ptr k 0 0)] [(k + 1, ⟨6, true, [[.lit (.slice none 0 0), .lit (.slice none 0 0), .lit (.slice none 0 0), .lit (.slice none 0 0), .lit (.slice none 0 0), .lit (.slice none 0 0)]]⟩), (k, ⟨6, true, [d.cells]⟩)] (by omega) (by simp -dsimp -implicitDefEqProofs only [go_sem, List.map_append, Flt.row, eq_self, ↓reduceIte]) rfl (by simp -dsimp -implicitDefEqProofs only [go_sem, List.map_append, Flt.row, eq_self, ↓reduceIte]) (by rw [el]; exact cpL_le _ _ _) (by simp -dsimp -implicitDefEqProofs only [go_sem, List.map_append, Flt.row, eq_self, ↓reduceIte]) (by simp -dsimp -implicitDefEqProofs only [go_sem, List.map_append, Flt.row, eq_self, ↓reduceIte]) (by simp -dsimp -implicitDefEqProofs only [go_sem, List.map_append, Flt.row, eq_self, ↓reduceIte])) ?_
  refine W_mv (Mv.wk (k1 := k + 4) (fr1 := [(34, .lit (.int .i64 0)), (33, .lit (.int .i64 (d.n1 : Int))), (32, .rd 2 d.n1 d.f1), (3, .ptr (k + 2) 0 0), (2, .ptr (k + 1) 0 0), (1, .ptr k 0 0)]) (H1 := [(k + 2, ⟨6, false, [[.rd 2 d.n0 d.f0, .lit (.slice none 0 0), .lit (.slice none 0 0), .rd 1 d.n3 d.f3, .rd 8 d.n4 d.f4, .lit (.slice none 0 0)]]⟩), (k + 1, ⟨6, true, [[.lit (.slice none 0 0), .lit (.slice none 0 0), .lit (.slice none 0 0), .lit (.slice none 0 0), .lit (.slice none 0 0), .lit (.slice none 0 0)]]⟩), (k, ⟨6, true, [d.cells]⟩)]) (wk_low (by omega) (by simp -dsimp -implicitDefEqProofs only [go_sem, List.map_append, Flt.row, eq_self, ↓reduceIte]) (by simp -dsimp -implicitDefEqProofs only [go_sem, List.map_append, Flt.row, eq_self, ↓reduceIte]) (by simp -dsimp -implicitDefEqProofs only [go_sem, List.map_append, Flt.row, eq_self, ↓reduceIte]) (by simp -dsimp -implicitDefEqProofs only [go_sem, List.map_append, Flt.row, eq_self, ↓reduceIte]))) ?_
  clear el hl
  clear l
  refine rR ?_ <;> first | exact hdT | apply zN
  refine M_forO (X := Nat) rfl [0,1,2,3,5,7,9,11,18,19,20,21,32,33,34,35,46,47,48,49,60,61,62,63] (k + 5) (fun i => [(34, .lit (.int .i64 (i : Int)))]) (fun i => accH (k + 4) 2 (cpL d.f1 i) [(k + 2, ⟨6, false, [[.rd 2 d.n0 d.f0, accV (k + 4) (cpL d.f1 i), .lit (.slice none 0 0), .rd 1 d.n3 d.f3, .rd 8 d.n4 d.f4, .lit (.slice none 0 0)]]⟩), (k + 1, ⟨6, true, [[.lit (.slice none 0 0), .lit (.slice none 0 0), .lit (.slice none 0 0), .lit (.slice none 0 0), .lit (.slice none 0 0), .lit (.slice none 0 0)]]⟩), (k, ⟨6, true, [d.cells]⟩)]) (fun i => i ≤ d.n1) (fun i => d.n1 - i) 0 ?_ (Nat.zero_le _) ?_
  · rw [cpL_zero]
    refine rR ?_ <;> first | exact hdT | apply zN
    exact wkF
  intro i hi
  obtain ⟨l, el, hl⟩ : ∃ x, x = cpL d.f1 i ∧ x.length = i := ⟨_, rfl, cpL_len _ _⟩
  rw [← el]
  refine rR ?_ <;> first | exact hdT | apply zN
  refine wl ?_ <;> and_intros <;> first | exact hdT | (apply zM; (repeat intro ht); apply zM; (repeat intro hg); apply zM)
  · refine ⟨i + 1, by omega, by omega, ?_⟩
    rw [cpL_succ, ← el]
    refine rR ?_ <;> first | exact hdT | apply zN
    exact Mv.app (k + 7) (k + 4) ⟨by omega, by omega⟩ ⟨by omega, by omega⟩ (wk_low (by omega) (by simp -dsimp -implicitDefEqProofs only [go_sem, List.map_append, Flt.row, eq_self, ↓reduceIte]) (by simp -dsimp -implicitDefEqProofs only [go_sem, List.map_append, Flt.row, eq_self, ↓reduceIte]) (by simp -dsimp -implicitDefEqProofs only [go_sem, List.map_append, Flt.row, eq_self, ↓reduceIte]) (by simp -dsimp -implicitDefEqProofs only [go_sem, List.map_append, Flt.row, eq_self, ↓reduceIte]))
  have hin : i = d.n1 := by omega
  subst hin
  refine W_mv (Mv.frz_row (id := k + 4) (s := 2) (D := k + 2) (sz := 6) (l := l) (row := [.rd 2 d.n0 d.f0, accV (k + 4) l, .lit (.slice none 0 0), .rd 1 d.n3 d.f3, .rd 8 d.n4 d.f4, .lit (.slice none 0 0)]) 1 (.rd 2 d.n1 d.f1) [(48, .lit (.int .i64 0)), (47, .lit (.int .i64 (d.n2 : Int))), (46, .rd 2 d.n2 d.f2), (3, .ptr (k + 2) 0 0), (2, .ptr (k + 1) 0 0), (1, .ptr k 0 0)] [(k + 1, ⟨6, true, [[.lit (.slice none 0 0), .lit (.slice none 0 0), .lit (.slice none 0 0), .lit (.slice none 0 0), .lit (.slice none 0 0), .lit (.slice none 0 0)]]⟩), (k, ⟨6, true, [d.cells]⟩)] (by omega) (by simp -dsimp -implicitDefEqProofs only [go_sem, List.map_append, Flt.row, eq_self, ↓reduceIte]) rfl (by simp -dsimp -implicitDefEqProofs only [go_sem, List.map_append, Flt.row, eq_self, ↓reduceIte]) (by rw [el]; exact cpL_le _ _ _) (by simp -dsimp -implicitDefEqProofs only [go_sem, List.map_append, Flt.row, eq_self, ↓reduceIte]) (by simp -dsimp -implicitDefEqProofs only [go_sem, List.map_append, Flt.row, eq_self, ↓reduceIte]) (by simp -dsimp -implicitDefEqProofs only [go_sem, List.map_append, Flt.row, eq_self, ↓reduceIte])) ?_
  refine W_mv (Mv.wk (k1 := k + 5) (fr1 := [(48, .lit (.int .i64 0)), (47, .lit (.int .i64 (d.n2 : Int))), (46, .rd 2 d.n2 d.f2), (3, .ptr (k + 2) 0 0), (2, .ptr (k + 1) 0 0), (1, .ptr k 0 0)]) (H1 := [(k + 2, ⟨6, false, [[.rd 2 d.n0 d.f0, .rd 2 d.n1 d.f1, .lit (.slice none 0 0), .rd 1 d.n3 d.f3, .rd 8 d.n4 d.f4, .lit (.slice none 0 0)]]⟩), (k + 1, ⟨6, true, [[.lit (.slice none 0 0), .lit (.slice none 0 0), .lit (.slice none 0 0), .lit (.slice none 0 0), .lit (.slice none 0 0), .lit (.slice none 0 0)]]⟩), (k, ⟨6, true, [d.cells]⟩)]) (wk_low (by omega) (by simp -dsimp -implicitDefEqProofs only [go_sem, List.map_append, Flt.row, eq_self, ↓reduceIte]) (by simp -dsimp -implicitDefEqProofs only [go_sem, List.map_append, Flt.row, eq_self, ↓reduceIte]) (by simp -dsimp -implicitDefEqProofs only [go_sem, List.map_append, Flt.row, eq_self, ↓reduceIte]) (by simp -dsimp -implicitDefEqProofs only [go_sem, List.map_append, Flt.row, eq_self, ↓reduceIte]))) ?_
  clear el hl
  clear l
  refine rR ?_ <;> first | exact hdT | apply zN
  refine M_forO (X := Nat) rfl [0,1,2,3,5,7,9,11,18,19,20,21,32,33,34,35,46,47,48,49,60,61,62,63] (k + 6) (fun i => [(48, .lit (.int .i64 (i : Int)))]) (fun i => accH (k + 5) 2 (cpL d.f2 i) [(k + 2, ⟨6, false, [[.rd 2 d.n0 d.f0, .rd 2 d.n1 d.f1, accV (k + 5) (cpL d.f2 i), .rd 1 d.n3 d.f3, .rd 8 d.n4 d.f4, .lit (.slice none 0 0)]]⟩), (k + 1, ⟨6, true, [[.lit (.slice none 0 0), .lit (.slice none 0 0), .lit (.slice none 0 0), .lit (.slice none 0 0), .lit (.slice none 0 0), .lit (.slice none 0 0)]]⟩), (k, ⟨6, true, [d.cells]⟩)]) (fun i => i ≤ d.n2) (fun i => d.n2 - i) 0 ?_ (Nat.zero_le _) ?_
  · rw [cpL_zero]
    refine rR ?_ <;> first | exact hdT | apply zN
    exact wkF
  intro i hi
  obtain ⟨l, el, hl⟩ : ∃ x, x = cpL d.f2 i ∧ x.length = i := ⟨_, rfl, cpL_len _ _⟩
  rw [← el]
  refine rR ?_ <;> first | exact hdT | apply zN
  refine wl ?_ <;> and_intros <;> first | exact hdT | (apply zM; (repeat intro ht); apply zM; (repeat intro hg); apply zM)
  · refine ⟨i + 1, by omega, by omega, ?_⟩
    rw [cpL_succ, ← el]
    refine rR ?_ <;> first | exact hdT | apply zN
    exact Mv.app (k + 8) (k + 5) ⟨by omega, by omega⟩ ⟨by omega, by omega⟩ (wk_low (by omega) (by simp -dsimp -implicitDefEqProofs only [go_sem, List.map_append, Flt.row, eq_self, ↓reduceIte]) (by simp -dsimp -implicitDefEqProofs only [go_sem, List.map_append, Flt.row, eq_self, ↓reduceIte]) (by simp -dsimp -implicitDefEqProofs only [go_sem, List.map_append, Flt.row, eq_self, ↓reduceIte]) (by simp -dsimp -implicitDefEqProofs only [go_sem, List.map_append, Flt.row, eq_self, ↓reduceIte]))
  have hin : i = d.n2 := by omega
  subst hin
  refine W_mv (Mv.frz_row (id := k + 5) (s := 2) (D := k + 2) (sz := 6) (l := l) (row := [.rd 2 d.n0 d.f0, .rd 2 d.n1 d.f1, accV (k + 5) l, .rd 1 d.n3 d.f3, .rd 8 d.n4 d.f4, .lit (.slice none 0 0)]) 2 (.rd 2 d.n2 d.f2) [(62, .lit (.int .i64 0)), (61, .lit (.int .i64 (d.n5 : Int))), (60, .rd 5 d.n5 d.f5), (3, .ptr (k + 2) 0 0), (2, .ptr (k + 1) 0 0), (1, .ptr k 0 0)] [(k + 1, ⟨6, true, [[.lit (.slice none 0 0), .lit (.slice none 0 0), .lit (.slice none 0 0), .lit (.slice none 0 0), .lit (.slice none 0 0), .lit (.slice none 0 0)]]⟩), (k, ⟨6, true, [d.cells]⟩)] (by omega) (by simp -dsimp -implicitDefEqProofs only [go_sem, List.map_append, Flt.row, eq_self, ↓reduceIte]) rfl (by simp -dsimp -implicitDefEqProofs only [go_sem, List.map_append, Flt.row, eq_self, ↓reduceIte]) (by rw [el]; exact cpL_le _ _ _) (by simp -dsimp -implicitDefEqProofs only [go_sem, List.map_append, Flt.row, eq_self, ↓reduceIte]) (by simp -dsimp -implicitDefEqProofs only [go_sem, List.map_append, Flt.row, eq_self, ↓reduceIte]) (by simp -dsimp -implicitDefEqProofs only [go_sem, List.map_append, Flt.row, eq_self, ↓reduceIte])) ?_
  refine W_mv (Mv.wk (k1 := k + 6) (fr1 := [(62, .lit (.int .i64 0)), (61, .lit (.int .i64 (d.n5 : Int))), (60, .rd 5 d.n5 d.f5), (3, .ptr (k + 2) 0 0), (2, .ptr (k + 1) 0 0), (1, .ptr k 0 0)]) (H1 := [(k + 2, ⟨6, false, [[.rd 2 d.n0 d.f0, .rd 2 d.n1 d.f1, .rd 2 d.n2 d.f2, .rd 1 d.n3 d.f3, .rd 8 d.n4 d.f4, .lit (.slice none 0 0)]]⟩), (k + 1, ⟨6, true, [[.lit (.slice none 0 0), .lit (.slice none 0 0), .lit (.slice none 0 0), .lit (.slice none 0 0), .lit (.slice none 0 0), .lit (.slice none 0 0)]]⟩), (k, ⟨6, true, [d.cells]⟩)]) (wk_low (by omega) (by simp -dsimp -implicitDefEqProofs only [go_sem, List.map_append, Flt.row, eq_self, ↓reduceIte]) (by simp -dsimp -implicitDefEqProofs only [go_sem, List.map_append, Flt.row, eq_self, ↓reduceIte]) (by simp -dsimp -implicitDefEqProofs only [go_sem, List.map_append, Flt.row, eq_self, ↓reduceIte]) (by simp -dsimp -implicitDefEqProofs only [go_sem, List.map_append, Flt.row, eq_self, ↓reduceIte]))) ?_
  clear el hl
  clear l
  refine rR ?_ <;> first | exact hdT | apply zN
  refine M_forO (X := Nat) rfl [0,1,2,3,5,7,9,11,18,19,20,21,32,33,34,35,46,47,48,49,60,61,62,63] (k + 7) (fun i => [(62, .lit (.int .i64 (i : Int)))]) (fun i => accH (k + 6) 5 (cpL d.f5 i) [(k + 2, ⟨6, false, [[.rd 2 d.n0 d.f0, .rd 2 d.n1 d.f1, .rd 2 d.n2 d.f2, .rd 1 d.n3 d.f3, .rd 8 d.n4 d.f4, accV (k + 6) (cpL d.f5 i)]]⟩), (k + 1, ⟨6, true, [[.lit (.slice none 0 0), .lit (.slice none 0 0), .lit (.slice none 0 0), .lit (.slice none 0 0), .lit (.slice none 0 0), .lit (.slice none 0 0)]]⟩), (k, ⟨6, true, [d.cells]⟩)]) (fun i => i ≤ d.n5) (fun i => d.n5 - i) 0 ?_ (Nat.zero_le _) ?_
  · rw [cpL_zero]
    refine rR ?_ <;> first | exact hdT | apply zN
    exact wkF
  intro i hi
  obtain ⟨l, el, hl⟩ : ∃ x, x = cpL d.f5 i ∧ x.length = i := ⟨_, rfl, cpL_len _ _⟩
  rw [← el]
  refine rR ?_ <;> first | exact hdT | apply zN
  refine C_seq rfl ?_; (refine S_reg0 rfl [0,1,2,3,5,7,9,11,18,19,20,21,32,33,34,35,46,47,48,49,60,61,62,63] rfl rfl (fun K hK => ?_)); simp -dsimp -implicitDefEqProofs only [go_sem, eq_self, ↓reduceIte]; (refine hK _ _ _ _ (fun hx => ?_)); clear hx hK; simp -dsimp -implicitDefEqProofs only [go_sem, eq_self, ↓reduceIte]; clear K
  refine C_seq rfl ?_
  refine C_cond rfl _ rfl (fun ht => ?_) (fun ht => ?_)
  · simp only [nf] at ht
    refine C_skip rfl ?_
    refine rR ?_ <;> first | exact hdT | apply zN
    refine wl ?_ <;> and_intros <;> first | exact hdT | (apply zM; (repeat intro ht); apply zM; (repeat intro hg); apply zM)
    refine ⟨i + 1, by omega, by omega, ?_⟩
    rw [cpL_succ, ← el]
    refine rR ?_ <;> first | exact hdT | apply zN
    exact Mv.app (k + 9) (k + 6) ⟨by omega, by omega⟩ ⟨by omega, by omega⟩ (wk_low (by omega) (by simp -dsimp -implicitDefEqProofs only [go_sem, List.map_append, Flt.row, eq_self, ↓reduceIte]) (by simp -dsimp -implicitDefEqProofs only [go_sem, List.map_append, Flt.row, eq_self, ↓reduceIte]) (by simp -dsimp -implicitDefEqProofs only [go_sem, List.map_append, Flt.row, eq_self, ↓reduceIte]) (by simp -dsimp -implicitDefEqProofs only [go_sem, List.map_append, Flt.row, eq_self, ↓reduceIte]))
  · simp only [nf] at ht
    refine C_exit rfl ?_
    refine rR ?_ <;> first | exact hdT | apply zN
    have hin : i = d.n5 := by omega
    subst hin
    refine W_mv (Mv.frz_row (id := k + 6) (s := 5) (D := k + 2) (sz := 6) (l := l) (row := [.rd 2 d.n0 d.f0, .rd 2 d.n1 d.f1, .rd 2 d.n2 d.f2, .rd 1 d.n3 d.f3, .rd 8 d.n4 d.f4, accV (k + 6) l]) 5 (.rd 5 d.n5 d.f5) [(3, .ptr (k + 2) 0 0), (2, .ptr (k + 1) 0 0)] [(k + 1, ⟨6, true, [[.lit (.slice none 0 0), .lit (.slice none 0 0), .lit (.slice none 0 0), .lit (.slice none 0 0), .lit (.slice none 0 0), .lit (.slice none 0 0)]]⟩), (k, ⟨6, true, [d.cells]⟩)] (by omega) (by simp -dsimp -implicitDefEqProofs only [go_sem, List.map_append, Flt.row, eq_self, ↓reduceIte]) rfl (by simp -dsimp -implicitDefEqProofs only [go_sem, List.map_append, Flt.row, eq_self, ↓reduceIte]) (by rw [el]; exact cpL_le _ _ _) (by simp -dsimp -implicitDefEqProofs only [go_sem, List.map_append, Flt.row, eq_self, ↓reduceIte]) (by simp -dsimp -implicitDefEqProofs only [go_sem, List.map_append, Flt.row, eq_self, ↓reduceIte]) (by simp -dsimp -implicitDefEqProofs only [go_sem, List.map_append, Flt.row, eq_self, ↓reduceIte])) ?_
    clear el hl
    refine rR ?_ <;> first | exact hdT | apply zN
    refine wl ?_ <;> and_intros <;> first | exact hdT | (apply zM; (repeat intro ht); apply zM; (repeat intro hg); apply zM)
    have uU := Go.AM.uU; refine cR ?_; apply zN
    exact VLe.refl _
end Go.Proofs.T
end
