import Derived.Test.YteimiejbhhgljaaGreatDoorZAN
import Derived.Laws.BytesString
set_option linter.unusedVariables false
set_option linter.unusedSimpArgs false
section
namespace Go.Proofs.T
open Go Go.AM Go.Proofs Go.Lib
set_option maxRecDepth 20000
variable {Γ : List (Nat × List AVal)}
attribute [local irreducible] putO del
attribute [local go_sem] strs nil6
set_option maxHeartbeats 8000000 in
theorem rRead35_c (l : List (List UInt8)) (hl : l.length ≤ 10000) (h300 : ∀ s ∈ l, s.length ≤ 300) : AM.Pure Tryz.prog Γ 43 [strs l] (.tup [.agg (dE (rdLs 0 0 [] l).1).cells, .lit (.int .i64 (rdLs 0 0 [] l).2.1), .lit (.int .i64 (rdLs 0 0 [] l).2.2)]) := by
  obtain ⟨RES, eRES⟩ : ∃ RES : List El × Int × Int → AVal, RES = fun r => .tup [.agg (dE r.1).cells, .lit (.int .i64 r.2.1), .lit (.int .i64 r.2.2)] := ⟨_, rfl⟩
  obtain ⟨Z, eZ⟩ : ∃ Z, Z = rdLs 0 0 [] l := ⟨_, rfl⟩
  have hb : bd (fun _ => false) (RES Z) = true := by rw [eRES]; rfl
  rw [← eZ]
  change AM.Pure _ _ _ _ ((fun r : List El × Int × Int => AVal.tup [.agg (dE r.1).cells, .lit (.int .i64 r.2.1), .lit (.int .i64 r.2.2)]) Z)
  rw [← eRES]
  refine Pure_at Tryz.func43 rfl 67 rfl (Nat.le_of_ble_eq_true rfl) (by exact hb) fun k => ?_
  have kp : Kp [0,2,3,4,5,6,7,8,9,13,26] (fun i => i - k) := kpI
  refine wl ?_ <;> and_intros <;> first | exact hdT | (apply zM; (repeat intro ht); apply zM; (repeat intro hg); apply zM)
  refine W_mv (Mv.impure (k + 1) (by simp -dsimp -implicitDefEqProofs only [go_sem, eq_self, ↓reduceIte]; rfl)) ?_
  refine rR ?_ <;> first | exact hdT | apply zN
  refine M_forO (X := Nat × List El × Int) rfl [0,2,3,4,5,6,7,8,9,13,26] (k + 8) (fun x => [(7, .lit (.int .i64 (x.1 : Int))), (6, .lit (.int .i64 x.2.2))]) (fun x => h6 k x.2.1 [(k + 1, ⟨6, false, [c6 k x.2.1]⟩), (k, ⟨6, true, [nil6]⟩)]) (fun x => x.1 ≤ l.length ∧ x.2.1.length ≤ x.1 ∧ Z = rdLs x.1 x.2.2 x.2.1 (l.drop x.1) ∧ 0 ≤ x.2.2) (fun x => l.length - x.1) (0, [], 0) ?_ ⟨Nat.zero_le _, Nat.le_refl _, eZ, Int.le_refl _⟩ ?_
  · show Mv k (k + 2) _ _ (k + 8) _ [(k + 1, ⟨6, false, [nil6]⟩), (k, ⟨6, true, [nil6]⟩)]
    refine rR ?_ <;> first | exact hdT | apply zN
    exact wkF
  have qa := acc_cells
  unfold acells at qa
  rintro ⟨j, acc, last⟩ ⟨h1, h2, h3, h4⟩
  simp only at h1 h2 h3 h4
  by_cases hlt : j < l.length
  · obtain ⟨s, es, hs⟩ : ∃ s, s = l.getD j [] ∧ s ∈ l := ⟨_, rfl, by rw [List.getD_eq_getElem?_getD, List.getElem?_eq_getElem hlt]; exact List.getElem_mem hlt⟩
    have hone := rOne_c (Γ := Γ) s (h300 s hs)
    have hdrop : l.drop j = s :: l.drop (j + 1) := by rw [es, List.getD_eq_getElem?_getD, List.getElem?_eq_getElem hlt]; exact List.drop_eq_getElem_cons hlt
    rw [hdrop, rdLs] at h3
    obtain ⟨d1, ed⟩ : ∃ d1, d1 = dE (rdL s).toList := ⟨_, rfl⟩
    obtain ⟨at', ea⟩ : ∃ a, a = kW (rdL s) := ⟨_, rfl⟩
    rw [← ed, ← ea] at hone
    obtain ⟨L0, e0, l0⟩ : ∃ x, x = (dlE acc).ck.map vlR ∧ x.length ≤ 10000 := ⟨_, rfl, by rw [List.length_map]; have : (dlE acc).ck.length ≤ acc.length := List.length_filterMap_le _ _; omega⟩
    obtain ⟨L1, e1, l1⟩ : ∃ x, x = (dlE acc).cu.map vlR ∧ x.length ≤ 10000 := ⟨_, rfl, by rw [List.length_map]; have : (dlE acc).cu.length ≤ acc.length := List.length_filterMap_le _ _; omega⟩
    obtain ⟨L2, e2, l2⟩ : ∃ x, x = (dlE acc).wg.map vlR ∧ x.length ≤ 10000 := ⟨_, rfl, by rw [List.length_map]; have : (dlE acc).wg.length ≤ acc.length := List.length_filterMap_le _ _; omega⟩
    obtain ⟨L3, e3, l3⟩ : ∃ x, x = (dlE acc).gn.map nR ∧ x.length ≤ 10000 := ⟨_, rfl, by rw [List.length_map]; have : (dlE acc).gn.length ≤ acc.length := List.length_filterMap_le _ _; omega⟩
    obtain ⟨L4, e4, l4⟩ : ∃ x, x = (dlE acc).tk.map tR ∧ x.length ≤ 10000 := ⟨_, rfl, by rw [List.length_map]; have : (dlE acc).tk.length ≤ acc.length := List.length_filterMap_le _ _; omega⟩
    obtain ⟨L5, e5, l5⟩ : ∃ x, x = (dlE acc).sp.map pR ∧ x.length ≤ 10000 := ⟨_, rfl, by rw [List.length_map]; have : (dlE acc).sp.length ≤ acc.length := List.length_filterMap_le _ _; omega⟩
    simp only [h6, c6]
    rw [← e0, ← e1, ← e2, ← e3, ← e4, ← e5]
    have uU := Eq.symm (es)
    refine rR ?_ <;> first | exact hdT | apply zN
    refine wl ?_ <;> and_intros <;> first | exact hdT | (apply zM; (repeat intro ht); apply zM; (repeat intro hg); apply zM)
    refine cl [.ret (.tup [.agg d1.cells, .lit (.int .i64 at')])] ?_ <;> and_intros <;> first | exact hdT | (apply zM; (repeat intro ht); apply zM; (repeat intro hg); apply zM)
    · exact hone
    have hbad : Z = ([], (j : Int), 353) → VLe (.tup [.agg nil6, .lit (.int .i64 (j : Int)), .lit (.int .i64 353)]) (RES Z) := fun h => by
      rw [eRES, h]
      exact VLe.tups (.cons (VLe.aggs (.cons (VLe.nil _ _) (.cons (VLe.nil _ _) (.cons (VLe.nil _ _) (.cons (VLe.nil _ _) (.cons (VLe.nil _ _) (.cons (VLe.nil _ _) .nil))))))) (.cons (VLe.refl _) (.cons (VLe.refl _) .nil)))
    refine wl ?_ <;> and_intros <;> first | exact hdT | (apply zM; (repeat intro ht); apply zM; (repeat intro hg); apply zM)
    · have hz : Z = ([], (j : Int), 353) := by
        cases h : rdL s with
        | none => rw [h] at h3; exact h3
        | some e =>
          rw [h] at h3 ea
          have ea : at' = e.kind := ea
          simp only at h3
          rw [if_pos (by omega)] at h3
          exact h3
      refine wl ?_ <;> and_intros <;> first | exact hdT | (apply zM; (repeat intro ht); apply zM; (repeat intro hg); apply zM)
      refine C_ret rfl ?_; simp -dsimp -implicitDefEqProofs only [go_sem, ← es, eq_self, ↓reduceIte]; refine ⟨_, rfl, ?_⟩
      exact hbad hz
    · obtain ⟨e, he⟩ : ∃ e, rdL s = some e := by
        cases h : rdL s with
        | none =>
          rw [h] at ea
          have ea : at' = -1 := ea
          omega
        | some e => exact ⟨e, rfl⟩
      rw [he] at h3 ed ea
      have hat : at' = e.kind := ea
      simp only at h3
      rw [if_neg (by omega)] at h3
      have h0 : 0 ≤ at' := by omega
      · cases e with
        | ck a b =>
          have n0 : d1.n0 = 1 := by rw [ed]; rfl
          have n1 : d1.n1 = 0 := by rw [ed]; rfl
          have n2 : d1.n2 = 0 := by rw [ed]; rfl
          have n3 : d1.n3 = 0 := by rw [ed]; rfl
          have n4 : d1.n4 = 0 := by rw [ed]; rfl
          have n5 : d1.n5 = 0 := by rw [ed]; rfl
          have q0 : d1.ck 0 = (a, b) := by rw [ed]; rfl
          have m0 : (dlE (acc ++ [.ck a b])).ck.map vlR = L0 ++ [[.lit (.int .i64 a), .lit (.int .i64 b)]] := fmY (x := (a, b)) e0 rfl
          have m1 : (dlE (acc ++ [.ck a b])).cu.map vlR = L1 := fmN e1 rfl
          have m2 : (dlE (acc ++ [.ck a b])).wg.map vlR = L2 := fmN e2 rfl
          have m3 : (dlE (acc ++ [.ck a b])).gn.map nR = L3 := fmN e3 rfl
          have m4 : (dlE (acc ++ [.ck a b])).tk.map tR = L4 := fmN e4 rfl
          have m5 : (dlE (acc ++ [.ck a b])).sp.map pR = L5 := fmN e5 rfl
          refine W_mv (Mv.wk (k1 := k + 9) (fr1 := [(8, .ptr (k + 8) 0 0), (6, .lit (.int .i64 at')), (7, .lit (.int .i64 (j : Int))), (5, .ptr (k + 1) 0 0), (4, .lit (.int .i64 0)), (3, .lit (.int .i64 0)), (2, .ptr k 0 0), (0, strs l)]) (H1 := (accH (k + 2) 2 L0 (accH (k + 3) 2 L1 (accH (k + 4) 2 L2 (accH (k + 5) 1 L3 (accH (k + 6) 8 L4 (accH (k + 7) 5 L5 [(k + 8, ⟨6, true, [d1.cells]⟩), (k + 1, ⟨6, false, [[accV (k + 2) L0, accV (k + 3) L1, accV (k + 4) L2, accV (k + 5) L3, accV (k + 6) L4, accV (k + 7) L5]]⟩), (k, ⟨6, true, [nil6]⟩)]))))))) (wk_low (by omega) (by simp -dsimp -implicitDefEqProofs only [go_sem, qa, n0, n1, n2, n3, n4, n5, q0, List.map_append, Flt.row, eq_self, ↓reduceIte]) (by simp -dsimp -implicitDefEqProofs only [go_sem, qa, n0, n1, n2, n3, n4, n5, q0, List.map_append, Flt.row, eq_self, ↓reduceIte]) (by simp -dsimp -implicitDefEqProofs only [go_sem, qa, n0, n1, n2, n3, n4, n5, q0, List.map_append, Flt.row, eq_self, ↓reduceIte]) (by simp -dsimp -implicitDefEqProofs only [go_sem, qa, n0, n1, n2, n3, n4, n5, q0, List.map_append, Flt.row, eq_self, ↓reduceIte]))) ?_
          refine S_drw rfl [0,2,3,4,5,6,7,8,9,13,26] [] (by kernel_rfl) rfl (fun K hK => ?_); simp -dsimp -implicitDefEqProofs only [go_sem, qa, n0, n1, n2, n3, n4, n5, q0, eq_self, ↓reduceIte]; (repeat' (first | (refine And.intro ?_ ?_) | (refine gs_both (fun hb => ?_) (fun hb => ?_) <;> (have hg := hb; (try simp only [nfb] at hg); simp -dsimp -implicitDefEqProofs only [go_sem, qa, n0, n1, n2, n3, n4, n5, q0, hb, hg, eq_self, ↓reduceIte]; clear hb; (try simp only [nfe] at hg))))); (all_goals (try omega))
          all_goals (try first | (cases L0 <;> rfl) | (cases L1 <;> rfl) | (cases L2 <;> rfl))
          refine hK _ _ _ _ ?_ (fun hx => ?_)
          · cases L0 <;> cases L1 <;> cases L2 <;> simp only [accRds, accDel, List.map_cons, List.map_nil] <;> exact drawA (fun i => i - k)
          clear hx hK
          have uU := zA @qa (zA @n0 (zA @n1 (zA @n2 (zA @n3 (zA @n4 (zA @n5 @q0))))))
          refine rR ?_ <;> first | exact hdT | apply zN
          skip
          refine S_drw rfl [0,2,3,4,5,6,7,8,9,13,26] [] (by kernel_rfl) rfl (fun K hK => ?_); simp -dsimp -implicitDefEqProofs only [go_sem, qa, n0, n1, n2, n3, n4, n5, q0, eq_self, ↓reduceIte]; (repeat' (first | (refine And.intro ?_ ?_) | (refine gs_both (fun hb => ?_) (fun hb => ?_) <;> (have hg := hb; (try simp only [nfb] at hg); simp -dsimp -implicitDefEqProofs only [go_sem, qa, n0, n1, n2, n3, n4, n5, q0, hb, hg, eq_self, ↓reduceIte]; clear hb; (try simp only [nfe] at hg))))); (all_goals (try omega))
          all_goals (try first | (cases L3 <;> rfl) | (cases L4 <;> rfl) | (cases L5 <;> rfl))
          refine hK _ _ _ _ ?_ (fun hx => ?_)
          · cases L3 <;> cases L4 <;> cases L5 <;> simp only [accRds, accDel, List.map_cons, List.map_nil] <;> exact drawA (fun i => i - k)
          clear hx hK
          refine rR ?_ <;> first | exact hdT | apply zN
          refine wl ?_ <;> and_intros <;> first | exact hdT | (apply zM; (repeat intro ht); apply zM; (repeat intro hg); apply zM)
          refine ⟨(j + 1, acc ++ [.ck a b], at'), ⟨by simp only; omega, by simp only [List.length_append, List.length_cons, List.length_nil]; omega, by rw [hat]; exact h3, h0⟩, by simp only; omega, ?_⟩
          simp only [h6, c6, m0, m1, m2, m3, m4, m5, show ((j + 1 : Nat) : Int) = (j : Int) + 1 by omega, tR, pR]
          refine rR ?_ <;> first | exact hdT | apply zN
          exact Mv.app (k + 9) (k + 2) ⟨by omega, by omega⟩ ⟨by omega, by omega⟩ (wk_low (by omega) (by simp -dsimp -implicitDefEqProofs only [go_sem, qa, n0, n1, n2, n3, n4, n5, q0, List.map_append, Flt.row, eq_self, ↓reduceIte]) (by simp -dsimp -implicitDefEqProofs only [go_sem, qa, n0, n1, n2, n3, n4, n5, q0, List.map_append, Flt.row, eq_self, ↓reduceIte]) (by simp -dsimp -implicitDefEqProofs only [go_sem, qa, n0, n1, n2, n3, n4, n5, q0, List.map_append, Flt.row, eq_self, ↓reduceIte]) (by simp -dsimp -implicitDefEqProofs only [go_sem, qa, n0, n1, n2, n3, n4, n5, q0, List.map_append, Flt.row, eq_self, ↓reduceIte]))
        | cu a b =>
          have n0 : d1.n0 = 0 := by rw [ed]; rfl
          have n1 : d1.n1 = 1 := by rw [ed]; rfl
          have n2 : d1.n2 = 0 := by rw [ed]; rfl
          have n3 : d1.n3 = 0 := by rw [ed]; rfl
          have n4 : d1.n4 = 0 := by rw [ed]; rfl
          have n5 : d1.n5 = 0 := by rw [ed]; rfl
          have q0 : d1.cu 0 = (a, b) := by rw [ed]; rfl
          have m0 : (dlE (acc ++ [.cu a b])).ck.map vlR = L0 := fmN e0 rfl
          have m1 : (dlE (acc ++ [.cu a b])).cu.map vlR = L1 ++ [[.lit (.int .i64 a), .lit (.int .i64 b)]] := fmY (x := (a, b)) e1 rfl
          have m2 : (dlE (acc ++ [.cu a b])).wg.map vlR = L2 := fmN e2 rfl
          have m3 : (dlE (acc ++ [.cu a b])).gn.map nR = L3 := fmN e3 rfl
          have m4 : (dlE (acc ++ [.cu a b])).tk.map tR = L4 := fmN e4 rfl
          have m5 : (dlE (acc ++ [.cu a b])).sp.map pR = L5 := fmN e5 rfl
          refine W_mv (Mv.wk (k1 := k + 9) (fr1 := [(8, .ptr (k + 8) 0 0), (6, .lit (.int .i64 at')), (7, .lit (.int .i64 (j : Int))), (5, .ptr (k + 1) 0 0), (4, .lit (.int .i64 0)), (3, .lit (.int .i64 0)), (2, .ptr k 0 0), (0, strs l)]) (H1 := (accH (k + 3) 2 L1 (accH (k + 2) 2 L0 (accH (k + 4) 2 L2 (accH (k + 5) 1 L3 (accH (k + 6) 8 L4 (accH (k + 7) 5 L5 [(k + 8, ⟨6, true, [d1.cells]⟩), (k + 1, ⟨6, false, [[accV (k + 2) L0, accV (k + 3) L1, accV (k + 4) L2, accV (k + 5) L3, accV (k + 6) L4, accV (k + 7) L5]]⟩), (k, ⟨6, true, [nil6]⟩)]))))))) (wk_low (by omega) (by simp -dsimp -implicitDefEqProofs only [go_sem, qa, n0, n1, n2, n3, n4, n5, q0, List.map_append, Flt.row, eq_self, ↓reduceIte]) (by simp -dsimp -implicitDefEqProofs only [go_sem, qa, n0, n1, n2, n3, n4, n5, q0, List.map_append, Flt.row, eq_self, ↓reduceIte]) (by simp -dsimp -implicitDefEqProofs only [go_sem, qa, n0, n1, n2, n3, n4, n5, q0, List.map_append, Flt.row, eq_self, ↓reduceIte]) (by simp -dsimp -implicitDefEqProofs only [go_sem, qa, n0, n1, n2, n3, n4, n5, q0, List.map_append, Flt.row, eq_self, ↓reduceIte]))) ?_
          refine S_drw rfl [0,2,3,4,5,6,7,8,9,13,26] [] (by kernel_rfl) rfl (fun K hK => ?_); simp -dsimp -implicitDefEqProofs only [go_sem, qa, n0, n1, n2, n3, n4, n5, q0, eq_self, ↓reduceIte]; (repeat' (first | (refine And.intro ?_ ?_) | (refine gs_both (fun hb => ?_) (fun hb => ?_) <;> (have hg := hb; (try simp only [nfb] at hg); simp -dsimp -implicitDefEqProofs only [go_sem, qa, n0, n1, n2, n3, n4, n5, q0, hb, hg, eq_self, ↓reduceIte]; clear hb; (try simp only [nfe] at hg))))); (all_goals (try omega))
          all_goals (try first | (cases L0 <;> rfl) | (cases L1 <;> rfl) | (cases L2 <;> rfl))
          refine hK _ _ _ _ ?_ (fun hx => ?_)
          · cases L0 <;> cases L1 <;> cases L2 <;> simp only [accRds, accDel, List.map_cons, List.map_nil] <;> exact drawA (fun i => i - k)
          clear hx hK
          have uU := zA @qa (zA @n0 (zA @n1 (zA @n2 (zA @n3 (zA @n4 (zA @n5 @q0))))))
          refine rR ?_ <;> first | exact hdT | apply zN
          skip
          refine S_drw rfl [0,2,3,4,5,6,7,8,9,13,26] [] (by kernel_rfl) rfl (fun K hK => ?_); simp -dsimp -implicitDefEqProofs only [go_sem, qa, n0, n1, n2, n3, n4, n5, q0, eq_self, ↓reduceIte]; (repeat' (first | (refine And.intro ?_ ?_) | (refine gs_both (fun hb => ?_) (fun hb => ?_) <;> (have hg := hb; (try simp only [nfb] at hg); simp -dsimp -implicitDefEqProofs only [go_sem, qa, n0, n1, n2, n3, n4, n5, q0, hb, hg, eq_self, ↓reduceIte]; clear hb; (try simp only [nfe] at hg))))); (all_goals (try omega))
          all_goals (try first | (cases L3 <;> rfl) | (cases L4 <;> rfl) | (cases L5 <;> rfl))
          refine hK _ _ _ _ ?_ (fun hx => ?_)
          · cases L3 <;> cases L4 <;> cases L5 <;> simp only [accRds, accDel, List.map_cons, List.map_nil] <;> exact drawA (fun i => i - k)
          clear hx hK
          refine rR ?_ <;> first | exact hdT | apply zN
          refine wl ?_ <;> and_intros <;> first | exact hdT | (apply zM; (repeat intro ht); apply zM; (repeat intro hg); apply zM)
          refine ⟨(j + 1, acc ++ [.cu a b], at'), ⟨by simp only; omega, by simp only [List.length_append, List.length_cons, List.length_nil]; omega, by rw [hat]; exact h3, h0⟩, by simp only; omega, ?_⟩
          simp only [h6, c6, m0, m1, m2, m3, m4, m5, show ((j + 1 : Nat) : Int) = (j : Int) + 1 by omega, tR, pR]
          refine rR ?_ <;> first | exact hdT | apply zN
          exact Mv.app (k + 9) (k + 3) ⟨by omega, by omega⟩ ⟨by omega, by omega⟩ (wk_low (by omega) (by simp -dsimp -implicitDefEqProofs only [go_sem, qa, n0, n1, n2, n3, n4, n5, q0, List.map_append, Flt.row, eq_self, ↓reduceIte]) (by simp -dsimp -implicitDefEqProofs only [go_sem, qa, n0, n1, n2, n3, n4, n5, q0, List.map_append, Flt.row, eq_self, ↓reduceIte]) (by simp -dsimp -implicitDefEqProofs only [go_sem, qa, n0, n1, n2, n3, n4, n5, q0, List.map_append, Flt.row, eq_self, ↓reduceIte]) (by simp -dsimp -implicitDefEqProofs only [go_sem, qa, n0, n1, n2, n3, n4, n5, q0, List.map_append, Flt.row, eq_self, ↓reduceIte]))
        | wg a b =>
          have n0 : d1.n0 = 0 := by rw [ed]; rfl
          have n1 : d1.n1 = 0 := by rw [ed]; rfl
          have n2 : d1.n2 = 1 := by rw [ed]; rfl
          have n3 : d1.n3 = 0 := by rw [ed]; rfl
          have n4 : d1.n4 = 0 := by rw [ed]; rfl
          have n5 : d1.n5 = 0 := by rw [ed]; rfl
          have q0 : d1.wg 0 = (a, b) := by rw [ed]; rfl
          have m0 : (dlE (acc ++ [.wg a b])).ck.map vlR = L0 := fmN e0 rfl
          have m1 : (dlE (acc ++ [.wg a b])).cu.map vlR = L1 := fmN e1 rfl
          have m2 : (dlE (acc ++ [.wg a b])).wg.map vlR = L2 ++ [[.lit (.int .i64 a), .lit (.int .i64 b)]] := fmY (x := (a, b)) e2 rfl
          have m3 : (dlE (acc ++ [.wg a b])).gn.map nR = L3 := fmN e3 rfl
          have m4 : (dlE (acc ++ [.wg a b])).tk.map tR = L4 := fmN e4 rfl
          have m5 : (dlE (acc ++ [.wg a b])).sp.map pR = L5 := fmN e5 rfl
          refine W_mv (Mv.wk (k1 := k + 9) (fr1 := [(8, .ptr (k + 8) 0 0), (6, .lit (.int .i64 at')), (7, .lit (.int .i64 (j : Int))), (5, .ptr (k + 1) 0 0), (4, .lit (.int .i64 0)), (3, .lit (.int .i64 0)), (2, .ptr k 0 0), (0, strs l)]) (H1 := (accH (k + 4) 2 L2 (accH (k + 2) 2 L0 (accH (k + 3) 2 L1 (accH (k + 5) 1 L3 (accH (k + 6) 8 L4 (accH (k + 7) 5 L5 [(k + 8, ⟨6, true, [d1.cells]⟩), (k + 1, ⟨6, false, [[accV (k + 2) L0, accV (k + 3) L1, accV (k + 4) L2, accV (k + 5) L3, accV (k + 6) L4, accV (k + 7) L5]]⟩), (k, ⟨6, true, [nil6]⟩)]))))))) (wk_low (by omega) (by simp -dsimp -implicitDefEqProofs only [go_sem, qa, n0, n1, n2, n3, n4, n5, q0, List.map_append, Flt.row, eq_self, ↓reduceIte]) (by simp -dsimp -implicitDefEqProofs only [go_sem, qa, n0, n1, n2, n3, n4, n5, q0, List.map_append, Flt.row, eq_self, ↓reduceIte]) (by simp -dsimp -implicitDefEqProofs only [go_sem, qa, n0, n1, n2, n3, n4, n5, q0, List.map_append, Flt.row, eq_self, ↓reduceIte]) (by simp -dsimp -implicitDefEqProofs only [go_sem, qa, n0, n1, n2, n3, n4, n5, q0, List.map_append, Flt.row, eq_self, ↓reduceIte]))) ?_
          refine S_drw rfl [0,2,3,4,5,6,7,8,9,13,26] [] (by kernel_rfl) rfl (fun K hK => ?_); simp -dsimp -implicitDefEqProofs only [go_sem, qa, n0, n1, n2, n3, n4, n5, q0, eq_self, ↓reduceIte]; (repeat' (first | (refine And.intro ?_ ?_) | (refine gs_both (fun hb => ?_) (fun hb => ?_) <;> (have hg := hb; (try simp only [nfb] at hg); simp -dsimp -implicitDefEqProofs only [go_sem, qa, n0, n1, n2, n3, n4, n5, q0, hb, hg, eq_self, ↓reduceIte]; clear hb; (try simp only [nfe] at hg))))); (all_goals (try omega))
          all_goals (try first | (cases L0 <;> rfl) | (cases L1 <;> rfl) | (cases L2 <;> rfl))
          refine hK _ _ _ _ ?_ (fun hx => ?_)
          · cases L0 <;> cases L1 <;> cases L2 <;> simp only [accRds, accDel, List.map_cons, List.map_nil] <;> exact drawA (fun i => i - k)
          clear hx hK
          have uU := zA @qa (zA @n0 (zA @n1 (zA @n2 (zA @n3 (zA @n4 (zA @n5 @q0))))))
          refine rR ?_ <;> first | exact hdT | apply zN
          skip
          refine S_drw rfl [0,2,3,4,5,6,7,8,9,13,26] [] (by kernel_rfl) rfl (fun K hK => ?_); simp -dsimp -implicitDefEqProofs only [go_sem, qa, n0, n1, n2, n3, n4, n5, q0, eq_self, ↓reduceIte]; (repeat' (first | (refine And.intro ?_ ?_) | (refine gs_both (fun hb => ?_) (fun hb => ?_) <;> (have hg := hb; (try simp only [nfb] at hg); simp -dsimp -implicitDefEqProofs only [go_sem, qa, n0, n1, n2, n3, n4, n5, q0, hb, hg, eq_self, ↓reduceIte]; clear hb; (try simp only [nfe] at hg))))); (all_goals (try omega))
          all_goals (try first | (cases L3 <;> rfl) | (cases L4 <;> rfl) | (cases L5 <;> rfl))
          refine hK _ _ _ _ ?_ (fun hx => ?_)
          · cases L3 <;> cases L4 <;> cases L5 <;> simp only [accRds, accDel, List.map_cons, List.map_nil] <;> exact drawA (fun i => i - k)
          clear hx hK
          refine rR ?_ <;> first | exact hdT | apply zN
          refine wl ?_ <;> and_intros <;> first | exact hdT | (apply zM; (repeat intro ht); apply zM; (repeat intro hg); apply zM)
          refine ⟨(j + 1, acc ++ [.wg a b], at'), ⟨by simp only; omega, by simp only [List.length_append, List.length_cons, List.length_nil]; omega, by rw [hat]; exact h3, h0⟩, by simp only; omega, ?_⟩
          simp only [h6, c6, m0, m1, m2, m3, m4, m5, show ((j + 1 : Nat) : Int) = (j : Int) + 1 by omega, tR, pR]
          refine rR ?_ <;> first | exact hdT | apply zN
          exact Mv.app (k + 9) (k + 4) ⟨by omega, by omega⟩ ⟨by omega, by omega⟩ (wk_low (by omega) (by simp -dsimp -implicitDefEqProofs only [go_sem, qa, n0, n1, n2, n3, n4, n5, q0, List.map_append, Flt.row, eq_self, ↓reduceIte]) (by simp -dsimp -implicitDefEqProofs only [go_sem, qa, n0, n1, n2, n3, n4, n5, q0, List.map_append, Flt.row, eq_self, ↓reduceIte]) (by simp -dsimp -implicitDefEqProofs only [go_sem, qa, n0, n1, n2, n3, n4, n5, q0, List.map_append, Flt.row, eq_self, ↓reduceIte]) (by simp -dsimp -implicitDefEqProofs only [go_sem, qa, n0, n1, n2, n3, n4, n5, q0, List.map_append, Flt.row, eq_self, ↓reduceIte]))
        | gn a =>
          have n0 : d1.n0 = 0 := by rw [ed]; rfl
          have n1 : d1.n1 = 0 := by rw [ed]; rfl
          have n2 : d1.n2 = 0 := by rw [ed]; rfl
          have n3 : d1.n3 = 1 := by rw [ed]; rfl
          have n4 : d1.n4 = 0 := by rw [ed]; rfl
          have n5 : d1.n5 = 0 := by rw [ed]; rfl
          have q0 : d1.gn 0 = a := by rw [ed]; rfl
          have m0 : (dlE (acc ++ [.gn a])).ck.map vlR = L0 := fmN e0 rfl
          have m1 : (dlE (acc ++ [.gn a])).cu.map vlR = L1 := fmN e1 rfl
          have m2 : (dlE (acc ++ [.gn a])).wg.map vlR = L2 := fmN e2 rfl
          have m3 : (dlE (acc ++ [.gn a])).gn.map nR = L3 ++ [[.lit (.int .i64 a)]] := fmY e3 rfl
          have m4 : (dlE (acc ++ [.gn a])).tk.map tR = L4 := fmN e4 rfl
          have m5 : (dlE (acc ++ [.gn a])).sp.map pR = L5 := fmN e5 rfl
          refine W_mv (Mv.wk (k1 := k + 9) (fr1 := [(8, .ptr (k + 8) 0 0), (6, .lit (.int .i64 at')), (7, .lit (.int .i64 (j : Int))), (5, .ptr (k + 1) 0 0), (4, .lit (.int .i64 0)), (3, .lit (.int .i64 0)), (2, .ptr k 0 0), (0, strs l)]) (H1 := (accH (k + 5) 1 L3 (accH (k + 2) 2 L0 (accH (k + 3) 2 L1 (accH (k + 4) 2 L2 (accH (k + 6) 8 L4 (accH (k + 7) 5 L5 [(k + 8, ⟨6, true, [d1.cells]⟩), (k + 1, ⟨6, false, [[accV (k + 2) L0, accV (k + 3) L1, accV (k + 4) L2, accV (k + 5) L3, accV (k + 6) L4, accV (k + 7) L5]]⟩), (k, ⟨6, true, [nil6]⟩)]))))))) (wk_low (by omega) (by simp -dsimp -implicitDefEqProofs only [go_sem, qa, n0, n1, n2, n3, n4, n5, q0, List.map_append, Flt.row, eq_self, ↓reduceIte]) (by simp -dsimp -implicitDefEqProofs only [go_sem, qa, n0, n1, n2, n3, n4, n5, q0, List.map_append, Flt.row, eq_self, ↓reduceIte]) (by simp -dsimp -implicitDefEqProofs only [go_sem, qa, n0, n1, n2, n3, n4, n5, q0, List.map_append, Flt.row, eq_self, ↓reduceIte]) (by simp -dsimp -implicitDefEqProofs only [go_sem, qa, n0, n1, n2, n3, n4, n5, q0, List.map_append, Flt.row, eq_self, ↓reduceIte]))) ?_
          refine S_drw rfl [0,2,3,4,5,6,7,8,9,13,26] [] (by kernel_rfl) rfl (fun K hK => ?_); simp -dsimp -implicitDefEqProofs only [go_sem, qa, n0, n1, n2, n3, n4, n5, q0, eq_self, ↓reduceIte]; (repeat' (first | (refine And.intro ?_ ?_) | (refine gs_both (fun hb => ?_) (fun hb => ?_) <;> (have hg := hb; (try simp only [nfb] at hg); simp -dsimp -implicitDefEqProofs only [go_sem, qa, n0, n1, n2, n3, n4, n5, q0, hb, hg, eq_self, ↓reduceIte]; clear hb; (try simp only [nfe] at hg))))); (all_goals (try omega))
          all_goals (try first | (cases L0 <;> rfl) | (cases L1 <;> rfl) | (cases L2 <;> rfl))
          refine hK _ _ _ _ ?_ (fun hx => ?_)
          · cases L0 <;> cases L1 <;> cases L2 <;> simp only [accRds, accDel, List.map_cons, List.map_nil] <;> exact drawA (fun i => i - k)
          clear hx hK
          have uU := zA @qa (zA @n0 (zA @n1 (zA @n2 (zA @n3 (zA @n4 (zA @n5 @q0))))))
          refine rR ?_ <;> first | exact hdT | apply zN
          skip
          refine S_drw rfl [0,2,3,4,5,6,7,8,9,13,26] [] (by kernel_rfl) rfl (fun K hK => ?_); simp -dsimp -implicitDefEqProofs only [go_sem, qa, n0, n1, n2, n3, n4, n5, q0, eq_self, ↓reduceIte]; (repeat' (first | (refine And.intro ?_ ?_) | (refine gs_both (fun hb => ?_) (fun hb => ?_) <;> (have hg := hb; (try simp only [nfb] at hg); simp -dsimp -implicitDefEqProofs only [go_sem, qa, n0, n1, n2, n3, n4, n5, q0, hb, hg, eq_self, ↓reduceIte]; clear hb; (try simp only [nfe] at hg))))); (all_goals (try omega))
          all_goals (try first | (cases L3 <;> rfl) | (cases L4 <;> rfl) | (cases L5 <;> rfl))
          refine hK _ _ _ _ ?_ (fun hx => ?_)
          · cases L3 <;> cases L4 <;> cases L5 <;> simp only [accRds, accDel, List.map_cons, List.map_nil] <;> exact drawA (fun i => i - k)
          clear hx hK
          refine rR ?_ <;> first | exact hdT | apply zN
          refine wl ?_ <;> and_intros <;> first | exact hdT | (apply zM; (repeat intro ht); apply zM; (repeat intro hg); apply zM)
          refine ⟨(j + 1, acc ++ [.gn a], at'), ⟨by simp only; omega, by simp only [List.length_append, List.length_cons, List.length_nil]; omega, by rw [hat]; exact h3, h0⟩, by simp only; omega, ?_⟩
          simp only [h6, c6, m0, m1, m2, m3, m4, m5, show ((j + 1 : Nat) : Int) = (j : Int) + 1 by omega, tR, pR]
          refine rR ?_ <;> first | exact hdT | apply zN
          exact Mv.app (k + 9) (k + 5) ⟨by omega, by omega⟩ ⟨by omega, by omega⟩ (wk_low (by omega) (by simp -dsimp -implicitDefEqProofs only [go_sem, qa, n0, n1, n2, n3, n4, n5, q0, List.map_append, Flt.row, eq_self, ↓reduceIte]) (by simp -dsimp -implicitDefEqProofs only [go_sem, qa, n0, n1, n2, n3, n4, n5, q0, List.map_append, Flt.row, eq_self, ↓reduceIte]) (by simp -dsimp -implicitDefEqProofs only [go_sem, qa, n0, n1, n2, n3, n4, n5, q0, List.map_append, Flt.row, eq_self, ↓reduceIte]) (by simp -dsimp -implicitDefEqProofs only [go_sem, qa, n0, n1, n2, n3, n4, n5, q0, List.map_append, Flt.row, eq_self, ↓reduceIte]))
        | tk x =>
          have n0 : d1.n0 = 0 := by rw [ed]; rfl
          have n1 : d1.n1 = 0 := by rw [ed]; rfl
          have n2 : d1.n2 = 0 := by rw [ed]; rfl
          have n3 : d1.n3 = 0 := by rw [ed]; rfl
          have n4 : d1.n4 = 1 := by rw [ed]; rfl
          have n5 : d1.n5 = 0 := by rw [ed]; rfl
          have q0 : d1.tk 0 = x := by rw [ed]; rfl
          have m0 : (dlE (acc ++ [.tk x])).ck.map vlR = L0 := fmN e0 rfl
          have m1 : (dlE (acc ++ [.tk x])).cu.map vlR = L1 := fmN e1 rfl
          have m2 : (dlE (acc ++ [.tk x])).wg.map vlR = L2 := fmN e2 rfl
          have m3 : (dlE (acc ++ [.tk x])).gn.map nR = L3 := fmN e3 rfl
          have m4 : (dlE (acc ++ [.tk x])).tk.map tR = L4 ++ [tR x] := fmY e4 rfl
          have m5 : (dlE (acc ++ [.tk x])).sp.map pR = L5 := fmN e5 rfl
          refine W_mv (Mv.wk (k1 := k + 9) (fr1 := [(8, .ptr (k + 8) 0 0), (6, .lit (.int .i64 at')), (7, .lit (.int .i64 (j : Int))), (5, .ptr (k + 1) 0 0), (4, .lit (.int .i64 0)), (3, .lit (.int .i64 0)), (2, .ptr k 0 0), (0, strs l)]) (H1 := (accH (k + 6) 8 L4 (accH (k + 2) 2 L0 (accH (k + 3) 2 L1 (accH (k + 4) 2 L2 (accH (k + 5) 1 L3 (accH (k + 7) 5 L5 [(k + 8, ⟨6, true, [d1.cells]⟩), (k + 1, ⟨6, false, [[accV (k + 2) L0, accV (k + 3) L1, accV (k + 4) L2, accV (k + 5) L3, accV (k + 6) L4, accV (k + 7) L5]]⟩), (k, ⟨6, true, [nil6]⟩)]))))))) (wk_low (by omega) (by simp -dsimp -implicitDefEqProofs only [go_sem, qa, n0, n1, n2, n3, n4, n5, q0, List.map_append, Flt.row, eq_self, ↓reduceIte]) (by simp -dsimp -implicitDefEqProofs only [go_sem, qa, n0, n1, n2, n3, n4, n5, q0, List.map_append, Flt.row, eq_self, ↓reduceIte]) (by simp -dsimp -implicitDefEqProofs only [go_sem, qa, n0, n1, n2, n3, n4, n5, q0, List.map_append, Flt.row, eq_self, ↓reduceIte]) (by simp -dsimp -implicitDefEqProofs only [go_sem, qa, n0, n1, n2, n3, n4, n5, q0, List.map_append, Flt.row, eq_self, ↓reduceIte]))) ?_
          refine S_drw rfl [0,2,3,4,5,6,7,8,9,13,26] [] (by kernel_rfl) rfl (fun K hK => ?_); simp -dsimp -implicitDefEqProofs only [go_sem, qa, n0, n1, n2, n3, n4, n5, q0, eq_self, ↓reduceIte]; (repeat' (first | (refine And.intro ?_ ?_) | (refine gs_both (fun hb => ?_) (fun hb => ?_) <;> (have hg := hb; (try simp only [nfb] at hg); simp -dsimp -implicitDefEqProofs only [go_sem, qa, n0, n1, n2, n3, n4, n5, q0, hb, hg, eq_self, ↓reduceIte]; clear hb; (try simp only [nfe] at hg))))); (all_goals (try omega))
          all_goals (try first | (cases L0 <;> rfl) | (cases L1 <;> rfl) | (cases L2 <;> rfl))
          refine hK _ _ _ _ ?_ (fun hx => ?_)
          · cases L0 <;> cases L1 <;> cases L2 <;> simp only [accRds, accDel, List.map_cons, List.map_nil] <;> exact drawA (fun i => i - k)
          clear hx hK
          have uU := zA @qa (zA @n0 (zA @n1 (zA @n2 (zA @n3 (zA @n4 (zA @n5 @q0))))))
          refine rR ?_ <;> first | exact hdT | apply zN
          skip
          refine S_drw rfl [0,2,3,4,5,6,7,8,9,13,26] [] (by kernel_rfl) rfl (fun K hK => ?_); simp -dsimp -implicitDefEqProofs only [go_sem, qa, n0, n1, n2, n3, n4, n5, q0, eq_self, ↓reduceIte]; (repeat' (first | (refine And.intro ?_ ?_) | (refine gs_both (fun hb => ?_) (fun hb => ?_) <;> (have hg := hb; (try simp only [nfb] at hg); simp -dsimp -implicitDefEqProofs only [go_sem, qa, n0, n1, n2, n3, n4, n5, q0, hb, hg, eq_self, ↓reduceIte]; clear hb; (try simp only [nfe] at hg))))); (all_goals (try omega))
          all_goals (try first | (cases L3 <;> rfl) | (cases L4 <;> rfl) | (cases L5 <;> rfl))
          refine hK _ _ _ _ ?_ (fun hx => ?_)
          · cases L3 <;> cases L4 <;> cases L5 <;> simp only [accRds, accDel, List.map_cons, List.map_nil] <;> exact drawA (fun i => i - k)
          clear hx hK
          refine rR ?_ <;> first | exact hdT | apply zN
          refine wl ?_ <;> and_intros <;> first | exact hdT | (apply zM; (repeat intro ht); apply zM; (repeat intro hg); apply zM)
          refine ⟨(j + 1, acc ++ [.tk x], at'), ⟨by simp only; omega, by simp only [List.length_append, List.length_cons, List.length_nil]; omega, by rw [hat]; exact h3, h0⟩, by simp only; omega, ?_⟩
          simp only [h6, c6, m0, m1, m2, m3, m4, m5, show ((j + 1 : Nat) : Int) = (j : Int) + 1 by omega, tR, pR]
          refine rR ?_ <;> first | exact hdT | apply zN
          exact Mv.app (k + 9) (k + 6) ⟨by omega, by omega⟩ ⟨by omega, by omega⟩ (wk_low (by omega) (by simp -dsimp -implicitDefEqProofs only [go_sem, qa, n0, n1, n2, n3, n4, n5, q0, List.map_append, Flt.row, eq_self, ↓reduceIte]) (by simp -dsimp -implicitDefEqProofs only [go_sem, qa, n0, n1, n2, n3, n4, n5, q0, List.map_append, Flt.row, eq_self, ↓reduceIte]) (by simp -dsimp -implicitDefEqProofs only [go_sem, qa, n0, n1, n2, n3, n4, n5, q0, List.map_append, Flt.row, eq_self, ↓reduceIte]) (by simp -dsimp -implicitDefEqProofs only [go_sem, qa, n0, n1, n2, n3, n4, n5, q0, List.map_append, Flt.row, eq_self, ↓reduceIte]))
        | sp g c p =>
          have n0 : d1.n0 = 0 := by rw [ed]; rfl
          have n1 : d1.n1 = 0 := by rw [ed]; rfl
          have n2 : d1.n2 = 0 := by rw [ed]; rfl
          have n3 : d1.n3 = 0 := by rw [ed]; rfl
          have n4 : d1.n4 = 0 := by rw [ed]; rfl
          have n5 : d1.n5 = 1 := by rw [ed]; rfl
          have q0 : d1.sp 0 = (g, c, p) := by rw [ed]; rfl
          have m0 : (dlE (acc ++ [.sp g c p])).ck.map vlR = L0 := fmN e0 rfl
          have m1 : (dlE (acc ++ [.sp g c p])).cu.map vlR = L1 := fmN e1 rfl
          have m2 : (dlE (acc ++ [.sp g c p])).wg.map vlR = L2 := fmN e2 rfl
          have m3 : (dlE (acc ++ [.sp g c p])).gn.map nR = L3 := fmN e3 rfl
          have m4 : (dlE (acc ++ [.sp g c p])).tk.map tR = L4 := fmN e4 rfl
          have m5 : (dlE (acc ++ [.sp g c p])).sp.map pR = L5 ++ [pR (g, c, p)] := fmY e5 rfl
          refine W_mv (Mv.wk (k1 := k + 9) (fr1 := [(8, .ptr (k + 8) 0 0), (6, .lit (.int .i64 at')), (7, .lit (.int .i64 (j : Int))), (5, .ptr (k + 1) 0 0), (4, .lit (.int .i64 0)), (3, .lit (.int .i64 0)), (2, .ptr k 0 0), (0, strs l)]) (H1 := (accH (k + 7) 5 L5 (accH (k + 2) 2 L0 (accH (k + 3) 2 L1 (accH (k + 4) 2 L2 (accH (k + 5) 1 L3 (accH (k + 6) 8 L4 [(k + 8, ⟨6, true, [d1.cells]⟩), (k + 1, ⟨6, false, [[accV (k + 2) L0, accV (k + 3) L1, accV (k + 4) L2, accV (k + 5) L3, accV (k + 6) L4, accV (k + 7) L5]]⟩), (k, ⟨6, true, [nil6]⟩)]))))))) (wk_low (by omega) (by simp -dsimp -implicitDefEqProofs only [go_sem, qa, n0, n1, n2, n3, n4, n5, q0, List.map_append, Flt.row, eq_self, ↓reduceIte]) (by simp -dsimp -implicitDefEqProofs only [go_sem, qa, n0, n1, n2, n3, n4, n5, q0, List.map_append, Flt.row, eq_self, ↓reduceIte]) (by simp -dsimp -implicitDefEqProofs only [go_sem, qa, n0, n1, n2, n3, n4, n5, q0, List.map_append, Flt.row, eq_self, ↓reduceIte]) (by simp -dsimp -implicitDefEqProofs only [go_sem, qa, n0, n1, n2, n3, n4, n5, q0, List.map_append, Flt.row, eq_self, ↓reduceIte]))) ?_
          refine S_drw rfl [0,2,3,4,5,6,7,8,9,13,26] [] (by kernel_rfl) rfl (fun K hK => ?_); simp -dsimp -implicitDefEqProofs only [go_sem, qa, n0, n1, n2, n3, n4, n5, q0, eq_self, ↓reduceIte]; (repeat' (first | (refine And.intro ?_ ?_) | (refine gs_both (fun hb => ?_) (fun hb => ?_) <;> (have hg := hb; (try simp only [nfb] at hg); simp -dsimp -implicitDefEqProofs only [go_sem, qa, n0, n1, n2, n3, n4, n5, q0, hb, hg, eq_self, ↓reduceIte]; clear hb; (try simp only [nfe] at hg))))); (all_goals (try omega))
          all_goals (try first | (cases L0 <;> rfl) | (cases L1 <;> rfl) | (cases L2 <;> rfl))
          refine hK _ _ _ _ ?_ (fun hx => ?_)
          · cases L0 <;> cases L1 <;> cases L2 <;> simp only [accRds, accDel, List.map_cons, List.map_nil] <;> exact drawA (fun i => i - k)
          clear hx hK
          have uU := zA @qa (zA @n0 (zA @n1 (zA @n2 (zA @n3 (zA @n4 (zA @n5 @q0))))))
          refine rR ?_ <;> first | exact hdT | apply zN
          skip
          refine S_drw rfl [0,2,3,4,5,6,7,8,9,13,26] [] (by kernel_rfl) rfl (fun K hK => ?_); simp -dsimp -implicitDefEqProofs only [go_sem, qa, n0, n1, n2, n3, n4, n5, q0, eq_self, ↓reduceIte]; (repeat' (first | (refine And.intro ?_ ?_) | (refine gs_both (fun hb => ?_) (fun hb => ?_) <;> (have hg := hb; (try simp only [nfb] at hg); simp -dsimp -implicitDefEqProofs only [go_sem, qa, n0, n1, n2, n3, n4, n5, q0, hb, hg, eq_self, ↓reduceIte]; clear hb; (try simp only [nfe] at hg))))); (all_goals (try omega))
          all_goals (try first | (cases L3 <;> rfl) | (cases L4 <;> rfl) | (cases L5 <;> rfl))
          refine hK _ _ _ _ ?_ (fun hx => ?_)
          · cases L3 <;> cases L4 <;> cases L5 <;> simp only [accRds, accDel, List.map_cons, List.map_nil] <;> exact drawA (fun i => i - k)
          clear hx hK
          refine rR ?_ <;> first | exact hdT | apply zN
          refine wl ?_ <;> and_intros <;> first | exact hdT | (apply zM; (repeat intro ht); apply zM; (repeat intro hg); apply zM)
          refine ⟨(j + 1, acc ++ [.sp g c p], at'), ⟨by simp only; omega, by simp only [List.length_append, List.length_cons, List.length_nil]; omega, by rw [hat]; exact h3, h0⟩, by simp only; omega, ?_⟩
          simp only [h6, c6, m0, m1, m2, m3, m4, m5, show ((j + 1 : Nat) : Int) = (j : Int) + 1 by omega, tR, pR]
          refine rR ?_ <;> first | exact hdT | apply zN
          exact Mv.app (k + 9) (k + 7) ⟨by omega, by omega⟩ ⟨by omega, by omega⟩ (wk_low (by omega) (by simp -dsimp -implicitDefEqProofs only [go_sem, qa, n0, n1, n2, n3, n4, n5, q0, List.map_append, Flt.row, eq_self, ↓reduceIte]) (by simp -dsimp -implicitDefEqProofs only [go_sem, qa, n0, n1, n2, n3, n4, n5, q0, List.map_append, Flt.row, eq_self, ↓reduceIte]) (by simp -dsimp -implicitDefEqProofs only [go_sem, qa, n0, n1, n2, n3, n4, n5, q0, List.map_append, Flt.row, eq_self, ↓reduceIte]) (by simp -dsimp -implicitDefEqProofs only [go_sem, qa, n0, n1, n2, n3, n4, n5, q0, List.map_append, Flt.row, eq_self, ↓reduceIte]))
  · have hj : j = l.length := by omega
    have hZ : Z = (acc, -1, 0) := by rw [h3, hj, List.drop_length]; rfl
    obtain ⟨L0, e0⟩ : ∃ x, x = (dlE acc).ck.map vlR := ⟨_, rfl⟩
    obtain ⟨L1, e1⟩ : ∃ x, x = (dlE acc).cu.map vlR := ⟨_, rfl⟩
    obtain ⟨L2, e2⟩ : ∃ x, x = (dlE acc).wg.map vlR := ⟨_, rfl⟩
    obtain ⟨L3, e3⟩ : ∃ x, x = (dlE acc).gn.map nR := ⟨_, rfl⟩
    obtain ⟨L4, e4⟩ : ∃ x, x = (dlE acc).tk.map tR := ⟨_, rfl⟩
    obtain ⟨L5, e5⟩ : ∃ x, x = (dlE acc).sp.map pR := ⟨_, rfl⟩
    have hle : VLe (.tup [.agg [rows 2 L0, rows 2 L1, rows 2 L2, rows 1 L3, rows 8 L4, rows 5 L5], .lit (.int .i64 (-1)), .lit (.int .i64 0)]) (RES Z) := by
      rw [eRES, hZ, e0, e1, e2, e3, e4, e5]
      exact VLe.tups (.cons (dOf_le (dlE acc)) (.cons (VLe.refl _) (.cons (VLe.refl _) .nil)))
    simp only [h6, c6]
    rw [← e0, ← e1, ← e2, ← e3, ← e4, ← e5]
    clear e0 e1 e2 e3 e4 e5
    have uU := @qa
    refine rR ?_ <;> first | exact hdT | apply zN
    refine wl ?_ <;> and_intros <;> first | exact hdT | (apply zM; (repeat intro ht); apply zM; (repeat intro hg); apply zM)
    · cases L0 <;> cases L1 <;> cases L2 <;> cases L3 <;> cases L4 <;> cases L5 <;> rfl
    refine W_mv (Mv.impure k (by simp -dsimp -implicitDefEqProofs only [go_sem, qa, eq_self, ↓reduceIte]; rfl)) ?_
    refine rR ?_ <;> first | exact hdT | apply zN
    refine W_mv (Mv.frz_row (id := k + 2) (s := 2) (D := k) (sz := 6) (l := L0) (row := [accV (k + 2) L0, accV (k + 3) L1, accV (k + 4) L2, accV (k + 5) L3, accV (k + 6) L4, accV (k + 7) L5]) 0 (rows 2 L0) [(4, .lit (.int .i64 0)), (3, .lit (.int .i64 (-1))), (2, .ptr k 0 0)] (accH (k + 3) 2 L1 (accH (k + 4) 2 L2 (accH (k + 5) 1 L3 (accH (k + 6) 8 L4 (accH (k + 7) 5 L5 []))))) (by omega) (by simp -dsimp -implicitDefEqProofs only [go_sem, qa, List.map_append, Flt.row, eq_self, ↓reduceIte]) rfl (by simp -dsimp -implicitDefEqProofs only [go_sem, qa, List.map_append, Flt.row, eq_self, ↓reduceIte]) (VLe.refl _) (by simp -dsimp -implicitDefEqProofs only [go_sem, qa, List.map_append, Flt.row, eq_self, ↓reduceIte]) (by simp -dsimp -implicitDefEqProofs only [go_sem, qa, List.map_append, Flt.row, eq_self, ↓reduceIte]) (by simp -dsimp -implicitDefEqProofs only [go_sem, qa, List.map_append, Flt.row, eq_self, ↓reduceIte])) ?_
    refine W_mv (Mv.frz_row (id := k + 3) (s := 2) (D := k) (sz := 6) (l := L1) (row := [rows 2 L0, accV (k + 3) L1, accV (k + 4) L2, accV (k + 5) L3, accV (k + 6) L4, accV (k + 7) L5]) 1 (rows 2 L1) [(4, .lit (.int .i64 0)), (3, .lit (.int .i64 (-1))), (2, .ptr k 0 0)] (accH (k + 4) 2 L2 (accH (k + 5) 1 L3 (accH (k + 6) 8 L4 (accH (k + 7) 5 L5 [])))) (by omega) (by simp -dsimp -implicitDefEqProofs only [go_sem, qa, List.map_append, Flt.row, eq_self, ↓reduceIte]) rfl (by simp -dsimp -implicitDefEqProofs only [go_sem, qa, List.map_append, Flt.row, eq_self, ↓reduceIte]) (VLe.refl _) (by simp -dsimp -implicitDefEqProofs only [go_sem, qa, List.map_append, Flt.row, eq_self, ↓reduceIte]) (by simp -dsimp -implicitDefEqProofs only [go_sem, qa, List.map_append, Flt.row, eq_self, ↓reduceIte]) (by simp -dsimp -implicitDefEqProofs only [go_sem, qa, List.map_append, Flt.row, eq_self, ↓reduceIte])) ?_
    refine W_mv (Mv.frz_row (id := k + 4) (s := 2) (D := k) (sz := 6) (l := L2) (row := [rows 2 L0, rows 2 L1, accV (k + 4) L2, accV (k + 5) L3, accV (k + 6) L4, accV (k + 7) L5]) 2 (rows 2 L2) [(4, .lit (.int .i64 0)), (3, .lit (.int .i64 (-1))), (2, .ptr k 0 0)] (accH (k + 5) 1 L3 (accH (k + 6) 8 L4 (accH (k + 7) 5 L5 []))) (by omega) (by simp -dsimp -implicitDefEqProofs only [go_sem, qa, List.map_append, Flt.row, eq_self, ↓reduceIte]) rfl (by simp -dsimp -implicitDefEqProofs only [go_sem, qa, List.map_append, Flt.row, eq_self, ↓reduceIte]) (VLe.refl _) (by simp -dsimp -implicitDefEqProofs only [go_sem, qa, List.map_append, Flt.row, eq_self, ↓reduceIte]) (by simp -dsimp -implicitDefEqProofs only [go_sem, qa, List.map_append, Flt.row, eq_self, ↓reduceIte]) (by simp -dsimp -implicitDefEqProofs only [go_sem, qa, List.map_append, Flt.row, eq_self, ↓reduceIte])) ?_
    refine W_mv (Mv.frz_row (id := k + 5) (s := 1) (D := k) (sz := 6) (l := L3) (row := [rows 2 L0, rows 2 L1, rows 2 L2, accV (k + 5) L3, accV (k + 6) L4, accV (k + 7) L5]) 3 (rows 1 L3) [(4, .lit (.int .i64 0)), (3, .lit (.int .i64 (-1))), (2, .ptr k 0 0)] (accH (k + 6) 8 L4 (accH (k + 7) 5 L5 [])) (by omega) (by simp -dsimp -implicitDefEqProofs only [go_sem, qa, List.map_append, Flt.row, eq_self, ↓reduceIte]) rfl (by simp -dsimp -implicitDefEqProofs only [go_sem, qa, List.map_append, Flt.row, eq_self, ↓reduceIte]) (VLe.refl _) (by simp -dsimp -implicitDefEqProofs only [go_sem, qa, List.map_append, Flt.row, eq_self, ↓reduceIte]) (by simp -dsimp -implicitDefEqProofs only [go_sem, qa, List.map_append, Flt.row, eq_self, ↓reduceIte]) (by simp -dsimp -implicitDefEqProofs only [go_sem, qa, List.map_append, Flt.row, eq_self, ↓reduceIte])) ?_
    refine W_mv (Mv.frz_row (id := k + 6) (s := 8) (D := k) (sz := 6) (l := L4) (row := [rows 2 L0, rows 2 L1, rows 2 L2, rows 1 L3, accV (k + 6) L4, accV (k + 7) L5]) 4 (rows 8 L4) [(4, .lit (.int .i64 0)), (3, .lit (.int .i64 (-1))), (2, .ptr k 0 0)] (accH (k + 7) 5 L5 []) (by omega) (by simp -dsimp -implicitDefEqProofs only [go_sem, qa, List.map_append, Flt.row, eq_self, ↓reduceIte]) rfl (by simp -dsimp -implicitDefEqProofs only [go_sem, qa, List.map_append, Flt.row, eq_self, ↓reduceIte]) (VLe.refl _) (by simp -dsimp -implicitDefEqProofs only [go_sem, qa, List.map_append, Flt.row, eq_self, ↓reduceIte]) (by simp -dsimp -implicitDefEqProofs only [go_sem, qa, List.map_append, Flt.row, eq_self, ↓reduceIte]) (by simp -dsimp -implicitDefEqProofs only [go_sem, qa, List.map_append, Flt.row, eq_self, ↓reduceIte])) ?_
    refine W_mv (Mv.frz_row (id := k + 7) (s := 5) (D := k) (sz := 6) (l := L5) (row := [rows 2 L0, rows 2 L1, rows 2 L2, rows 1 L3, rows 8 L4, accV (k + 7) L5]) 5 (rows 5 L5) [(4, .lit (.int .i64 0)), (3, .lit (.int .i64 (-1))), (2, .ptr k 0 0)] [] (by omega) (by simp -dsimp -implicitDefEqProofs only [go_sem, qa, List.map_append, Flt.row, eq_self, ↓reduceIte]) rfl (by simp -dsimp -implicitDefEqProofs only [go_sem, qa, List.map_append, Flt.row, eq_self, ↓reduceIte]) (VLe.refl _) (by simp -dsimp -implicitDefEqProofs only [go_sem, qa, List.map_append, Flt.row, eq_self, ↓reduceIte]) (by simp -dsimp -implicitDefEqProofs only [go_sem, qa, List.map_append, Flt.row, eq_self, ↓reduceIte]) (by simp -dsimp -implicitDefEqProofs only [go_sem, qa, List.map_append, Flt.row, eq_self, ↓reduceIte])) ?_
    have uU := @qa; refine cR ?_; apply zN
    exact hle
end Go.Proofs.T
end
section
namespace Go.AM
open Go
section
variable {P : Program} {Γ : List (Nat × List AVal)} {o : Oper} {ev : Operand → Option AVal} {get : Nat → Option Blk} {k : Nat}
theorem fold_push : ∀ (l : List UInt8) (r : ByteArray), (l.map fun b => ((b.toNat : Nat) : Int)).foldl (fun r n => r.push (UInt8.ofNat n.toNat)) r = ⟨r.data ++ l.toArray⟩
  | [], r => by simp
  | b :: l, r => by
    rw [List.map_cons, List.foldl_cons, fold_push l]
    show (⟨_⟩ : ByteArray) = ⟨_⟩
    congr 1
    show (r.push (UInt8.ofNat ((b.toNat : Nat) : Int).toNat)).data ++ l.toArray = r.data ++ (b :: l).toArray
    rw [Int.toNat_natCast, UInt8.ofNat_toNat]
    apply Array.ext'
    simp [ByteArray.push]
theorem bstr_good {src dst e id : Nat} {x : Operand} {p : Bool} {rows : List (List AVal)} (b0 : UInt8) (bs : List UInt8) (ho : o.op = .convert src dst x) (hs : P.underlying src = some (.slice e)) (he : P.underlying e = some (.int .u8)) (hd : P.underlying dst = some .string)
    (hx : ev x = some (.sl id 0 (bs.length + 1))) (hB : get id = some ⟨1, p, rows⟩) (hrows : rows = (b0 :: bs).map fun (b : UInt8) => [AVal.lit (.int .u8 ((b.toNat : Nat) : Int))]) :
    Good P Γ o ev get k ⟨.lit (.string (ByteArray.mk (b0 :: bs).toArray)), k, [], [id]⟩ := by
  refine ⟨OpOk_quiet fun w G ρ H A a hr hrd hop => ?_, fun id' hid => by simp at hid; rw [hid, hB]; rfl, Nat.le_refl _⟩
  have hvx := hop x (by simp [ho, Op.operands]) _ hx
  have hlr : rows.length = bs.length + 1 := by rw [hrows]; simp
  have hS := (SrcA.sl (get := get) (id := id) (r := 0) (m := bs.length + 1) hB (by show 0 + (bs.length + 1) ≤ rows.length; omega)).src hr hrd hvx
  obtain ⟨h1, h2, h3⟩ := hS
  obtain ⟨ba, c, cp, hcv, gv, h4⟩ := h3 (by omega)
  have hget : ∀ (j : Nat) (b : UInt8), (b0 :: bs)[j]? = some b → ((rows.drop 0).take (bs.length + 1))[j]? = some [AVal.lit (.int .u8 (b.toNat : Int))] := fun j b hj => by
    have hlt := (List.getElem?_eq_some_iff.1 hj).1
    simp only [List.length_cons] at hlt
    rw [List.drop_zero, List.take_of_length_le (by omega), hrows, List.getElem?_map, hj]; rfl
  have hl := run_loadCells_list (P := P) w ⟨ba, c, none⟩ ((b0 :: bs).map fun b => Value.int .u8 (b.toNat : Int)) (fun j v hj => by
    rw [List.getElem?_map] at hj
    simp only [Option.map_eq_some_iff] at hj
    obtain ⟨b, hb, rfl⟩ := hj
    obtain ⟨q1, q2⟩ := h4 j _ 0 _ (hget j b hb) rfl
    simp only [Nat.mul_one, Nat.add_zero] at q1
    generalize gv j 0 = z at q1 q2
    cases q2
    have ea : (⟨ba, c, none⟩ : Addr).add j = ⟨ba, c + j, none⟩ := by
      unfold Addr.add
      split
      · rename_i h; rw [h]; rfl
      · rfl
    rw [ea]
    exact q1)
  rw [List.length_map] at hl
  have hmm : (b0 :: bs).map (fun (b : UInt8) => Value.int .u8 ((b.toNat : Nat) : Int)) = ((b0 :: bs).map fun (b : UInt8) => ((b.toNat : Nat) : Int)).map (Value.int .u8) := by rw [List.map_map]; rfl
  rw [hmm] at hl
  have hrun := run_bytesToString (P := P) w ⟨ba, c, none⟩ (bs.length + 1) cp _ hl
  rw [fold_push] at hrun
  refine ⟨.string (ByteArray.mk (b0 :: bs).toArray), ?_, .lit⟩
  have hconv := run_convert_bytes_string (P := P) w src dst e (some ⟨ba, c, none⟩) (bs.length + 1) cp hs he hd
  rw [hrun] at hconv
  have e1 : (ByteArray.empty.data ++ (b0 :: bs).toArray) = (b0 :: bs).toArray := by
    show #[] ++ (b0 :: bs).toArray = (b0 :: bs).toArray
    simp only [Array.empty_append]
  rw [e1] at hconv
  simp [execOp, ho, hcv, hconv, Result.andThen]
def isBytesT (P : Program) (t : Nat) : Bool := match P.underlying t with
  | some (.slice e) => match P.underlying e with
    | some (.int .u8) => true
    | _ => false
  | _ => false
theorem bstr_goodT {src dst id : Nat} {x : Operand} {p : Bool} {rows : List (List AVal)} (b0 : UInt8) (bs : List UInt8) (ho : o.op = .convert src dst x) (hs : isBytesT P src = true) (hd : P.underlying dst = some .string)
    (hx : ev x = some (.sl id 0 (bs.length + 1))) (hB : get id = some ⟨1, p, rows⟩) (hrows : rows = (b0 :: bs).map fun (b : UInt8) => [AVal.lit (.int .u8 ((b.toNat : Nat) : Int))]) :
    Good P Γ o ev get k ⟨.lit (.string (ByteArray.mk (b0 :: bs).toArray)), k, [], [id]⟩ := by
  unfold isBytesT at hs
  split at hs
  · rename_i e he
    split at hs
    · rename_i h2
      exact bstr_good b0 bs ho he h2 hd hx hB hrows
    · cases hs
  · cases hs
end
end Go.AM
end
section
namespace Go.Proofs.T
open Go Go.AM Go.Proofs Go.Lib
set_option maxRecDepth 20000
variable {Γ : List (Nat × List AVal)}
attribute [local irreducible] putO del
attribute [local go_sem] strs
def mkB8 (i : Nat) : List UInt8 := [35, 1, 0, 0, 47, UInt8.ofNat i, 0, 0]
theorem mark_t (i : Nat) (hi : i < 12) : AM.Pure Tryz.prog Γ 100 [.lit (.int .i64 1), .lit (.int .i64 (i : Int))] (.lit (.string (ByteArray.mk (mkB8 i).toArray))) := by
  rcases (show i = 0 ∨ i = 1 ∨ i = 2 ∨ i = 3 ∨ i = 4 ∨ i = 5 ∨ i = 6 ∨ i = 7 ∨ i = 8 ∨ i = 9 ∨ i = 10 ∨ i = 11 by omega) with rfl | rfl | rfl | rfl | rfl | rfl | rfl | rfl | rfl | rfl | rfl | rfl
  · refine Pure_at Tryz.func100 rfl 23 rfl (Nat.le_of_ble_eq_true rfl) rfl fun k => ?_
    have kp : Kp [0,1,4] (fun i => i - k) := kpI
    refine wl ?_ <;> and_intros <;> first | exact hdT | (apply zM; (repeat intro ht); apply zM; (repeat intro hg); apply zM)
    refine cl [.raw (some 22) ⟨.lit (.string (ByteArray.mk (mkB8 0).toArray)), k + 1, [], [k]⟩] ?_ <;> and_intros <;> first | exact hdT | (apply zM; (repeat intro ht); apply zM; (repeat intro hg); apply zM)
    · exact bstr_goodT (src := 238) (dst := 9) (id := k) (p := true) 35 [1, 0, 0, 47, 0, 0, 0] rfl (by kernel_rfl) (by kernel_rfl) rfl (by rw [AM.look, if_pos rfl]) (by rfl)
    refine wl ?_ <;> and_intros <;> first | exact hdT | (apply zM; (repeat intro ht); apply zM; (repeat intro hg); apply zM)
    exact C_ret rfl ⟨_, rfl, VLe.refl _⟩
  · refine Pure_at Tryz.func100 rfl 23 rfl (Nat.le_of_ble_eq_true rfl) rfl fun k => ?_
    have kp : Kp [0,1,4] (fun i => i - k) := kpI
    refine wl ?_ <;> and_intros <;> first | exact hdT | (apply zM; (repeat intro ht); apply zM; (repeat intro hg); apply zM)
    refine cl [.raw (some 22) ⟨.lit (.string (ByteArray.mk (mkB8 1).toArray)), k + 1, [], [k]⟩] ?_ <;> and_intros <;> first | exact hdT | (apply zM; (repeat intro ht); apply zM; (repeat intro hg); apply zM)
    · exact bstr_goodT (src := 238) (dst := 9) (id := k) (p := true) 35 [1, 0, 0, 47, 1, 0, 0] rfl (by kernel_rfl) (by kernel_rfl) rfl (by rw [AM.look, if_pos rfl]) (by rfl)
    refine wl ?_ <;> and_intros <;> first | exact hdT | (apply zM; (repeat intro ht); apply zM; (repeat intro hg); apply zM)
    exact C_ret rfl ⟨_, rfl, VLe.refl _⟩
  · refine Pure_at Tryz.func100 rfl 23 rfl (Nat.le_of_ble_eq_true rfl) rfl fun k => ?_
    have kp : Kp [0,1,4] (fun i => i - k) := kpI
    refine wl ?_ <;> and_intros <;> first | exact hdT | (apply zM; (repeat intro ht); apply zM; (repeat intro hg); apply zM)
    refine cl [.raw (some 22) ⟨.lit (.string (ByteArray.mk (mkB8 2).toArray)), k + 1, [], [k]⟩] ?_ <;> and_intros <;> first | exact hdT | (apply zM; (repeat intro ht); apply zM; (repeat intro hg); apply zM)
    · exact bstr_goodT (src := 238) (dst := 9) (id := k) (p := true) 35 [1, 0, 0, 47, 2, 0, 0] rfl (by kernel_rfl) (by kernel_rfl) rfl (by rw [AM.look, if_pos rfl]) (by rfl)
    refine wl ?_ <;> and_intros <;> first | exact hdT | (apply zM; (repeat intro ht); apply zM; (repeat intro hg); apply zM)
    exact C_ret rfl ⟨_, rfl, VLe.refl _⟩
  · refine Pure_at Tryz.func100 rfl 23 rfl (Nat.le_of_ble_eq_true rfl) rfl fun k => ?_
    have kp : Kp [0,1,4] (fun i => i - k) := kpI
    refine wl ?_ <;> and_intros <;> first | exact hdT | (apply zM; (repeat intro ht); apply zM; (repeat intro hg); apply zM)
    refine cl [.raw (some 22) ⟨.lit (.string (ByteArray.mk (mkB8 3).toArray)), k + 1, [], [k]⟩] ?_ <;> and_intros <;> first | exact hdT | (apply zM; (repeat intro ht); apply zM; (repeat intro hg); apply zM)
    · exact bstr_goodT (src := 238) (dst := 9) (id := k) (p := true) 35 [1, 0, 0, 47, 3, 0, 0] rfl (by kernel_rfl) (by kernel_rfl) rfl (by rw [AM.look, if_pos rfl]) (by rfl)
    refine wl ?_ <;> and_intros <;> first | exact hdT | (apply zM; (repeat intro ht); apply zM; (repeat intro hg); apply zM)
    exact C_ret rfl ⟨_, rfl, VLe.refl _⟩
  · refine Pure_at Tryz.func100 rfl 23 rfl (Nat.le_of_ble_eq_true rfl) rfl fun k => ?_
    have kp : Kp [0,1,4] (fun i => i - k) := kpI
    refine wl ?_ <;> and_intros <;> first | exact hdT | (apply zM; (repeat intro ht); apply zM; (repeat intro hg); apply zM)
    refine cl [.raw (some 22) ⟨.lit (.string (ByteArray.mk (mkB8 4).toArray)), k + 1, [], [k]⟩] ?_ <;> and_intros <;> first | exact hdT | (apply zM; (repeat intro ht); apply zM; (repeat intro hg); apply zM)
    · exact bstr_goodT (src := 238) (dst := 9) (id := k) (p := true) 35 [1, 0, 0, 47, 4, 0, 0] rfl (by kernel_rfl) (by kernel_rfl) rfl (by rw [AM.look, if_pos rfl]) (by rfl)
    refine wl ?_ <;> and_intros <;> first | exact hdT | (apply zM; (repeat intro ht); apply zM; (repeat intro hg); apply zM)
    exact C_ret rfl ⟨_, rfl, VLe.refl _⟩
  · refine Pure_at Tryz.func100 rfl 23 rfl (Nat.le_of_ble_eq_true rfl) rfl fun k => ?_
    have kp : Kp [0,1,4] (fun i => i - k) := kpI
    refine wl ?_ <;> and_intros <;> first | exact hdT | (apply zM; (repeat intro ht); apply zM; (repeat intro hg); apply zM)
    refine cl [.raw (some 22) ⟨.lit (.string (ByteArray.mk (mkB8 5).toArray)), k + 1, [], [k]⟩] ?_ <;> and_intros <;> first | exact hdT | (apply zM; (repeat intro ht); apply zM; (repeat intro hg); apply zM)
    · exact bstr_goodT (src := 238) (dst := 9) (id := k) (p := true) 35 [1, 0, 0, 47, 5, 0, 0] rfl (by kernel_rfl) (by kernel_rfl) rfl (by rw [AM.look, if_pos rfl]) (by rfl)
    refine wl ?_ <;> and_intros <;> first | exact hdT | (apply zM; (repeat intro ht); apply zM; (repeat intro hg); apply zM)
    exact C_ret rfl ⟨_, rfl, VLe.refl _⟩
  · refine Pure_at Tryz.func100 rfl 23 rfl (Nat.le_of_ble_eq_true rfl) rfl fun k => ?_
    have kp : Kp [0,1,4] (fun i => i - k) := kpI
    refine wl ?_ <;> and_intros <;> first | exact hdT | (apply zM; (repeat intro ht); apply zM; (repeat intro hg); apply zM)
    refine cl [.raw (some 22) ⟨.lit (.string (ByteArray.mk (mkB8 6).toArray)), k + 1, [], [k]⟩] ?_ <;> and_intros <;> first | exact hdT | (apply zM; (repeat intro ht); apply zM; (repeat intro hg); apply zM)
    · exact bstr_goodT (src := 238) (dst := 9) (id := k) (p := true) 35 [1, 0, 0, 47, 6, 0, 0] rfl (by kernel_rfl) (by kernel_rfl) rfl (by rw [AM.look, if_pos rfl]) (by rfl)
    refine wl ?_ <;> and_intros <;> first | exact hdT | (apply zM; (repeat intro ht); apply zM; (repeat intro hg); apply zM)
    exact C_ret rfl ⟨_, rfl, VLe.refl _⟩
  · refine Pure_at Tryz.func100 rfl 23 rfl (Nat.le_of_ble_eq_true rfl) rfl fun k => ?_
    have kp : Kp [0,1,4] (fun i => i - k) := kpI
    refine wl ?_ <;> and_intros <;> first | exact hdT | (apply zM; (repeat intro ht); apply zM; (repeat intro hg); apply zM)
    refine cl [.raw (some 22) ⟨.lit (.string (ByteArray.mk (mkB8 7).toArray)), k + 1, [], [k]⟩] ?_ <;> and_intros <;> first | exact hdT | (apply zM; (repeat intro ht); apply zM; (repeat intro hg); apply zM)
    · exact bstr_goodT (src := 238) (dst := 9) (id := k) (p := true) 35 [1, 0, 0, 47, 7, 0, 0] rfl (by kernel_rfl) (by kernel_rfl) rfl (by rw [AM.look, if_pos rfl]) (by rfl)
    refine wl ?_ <;> and_intros <;> first | exact hdT | (apply zM; (repeat intro ht); apply zM; (repeat intro hg); apply zM)
    exact C_ret rfl ⟨_, rfl, VLe.refl _⟩
  · refine Pure_at Tryz.func100 rfl 23 rfl (Nat.le_of_ble_eq_true rfl) rfl fun k => ?_
    have kp : Kp [0,1,4] (fun i => i - k) := kpI
    refine wl ?_ <;> and_intros <;> first | exact hdT | (apply zM; (repeat intro ht); apply zM; (repeat intro hg); apply zM)
    refine cl [.raw (some 22) ⟨.lit (.string (ByteArray.mk (mkB8 8).toArray)), k + 1, [], [k]⟩] ?_ <;> and_intros <;> first | exact hdT | (apply zM; (repeat intro ht); apply zM; (repeat intro hg); apply zM)
    · exact bstr_goodT (src := 238) (dst := 9) (id := k) (p := true) 35 [1, 0, 0, 47, 8, 0, 0] rfl (by kernel_rfl) (by kernel_rfl) rfl (by rw [AM.look, if_pos rfl]) (by rfl)
    refine wl ?_ <;> and_intros <;> first | exact hdT | (apply zM; (repeat intro ht); apply zM; (repeat intro hg); apply zM)
    exact C_ret rfl ⟨_, rfl, VLe.refl _⟩
  · refine Pure_at Tryz.func100 rfl 23 rfl (Nat.le_of_ble_eq_true rfl) rfl fun k => ?_
    have kp : Kp [0,1,4] (fun i => i - k) := kpI
    refine wl ?_ <;> and_intros <;> first | exact hdT | (apply zM; (repeat intro ht); apply zM; (repeat intro hg); apply zM)
    refine cl [.raw (some 22) ⟨.lit (.string (ByteArray.mk (mkB8 9).toArray)), k + 1, [], [k]⟩] ?_ <;> and_intros <;> first | exact hdT | (apply zM; (repeat intro ht); apply zM; (repeat intro hg); apply zM)
    · exact bstr_goodT (src := 238) (dst := 9) (id := k) (p := true) 35 [1, 0, 0, 47, 9, 0, 0] rfl (by kernel_rfl) (by kernel_rfl) rfl (by rw [AM.look, if_pos rfl]) (by rfl)
    refine wl ?_ <;> and_intros <;> first | exact hdT | (apply zM; (repeat intro ht); apply zM; (repeat intro hg); apply zM)
    exact C_ret rfl ⟨_, rfl, VLe.refl _⟩
  · refine Pure_at Tryz.func100 rfl 23 rfl (Nat.le_of_ble_eq_true rfl) rfl fun k => ?_
    have kp : Kp [0,1,4] (fun i => i - k) := kpI
    refine wl ?_ <;> and_intros <;> first | exact hdT | (apply zM; (repeat intro ht); apply zM; (repeat intro hg); apply zM)
    refine cl [.raw (some 22) ⟨.lit (.string (ByteArray.mk (mkB8 10).toArray)), k + 1, [], [k]⟩] ?_ <;> and_intros <;> first | exact hdT | (apply zM; (repeat intro ht); apply zM; (repeat intro hg); apply zM)
    · exact bstr_goodT (src := 238) (dst := 9) (id := k) (p := true) 35 [1, 0, 0, 47, 10, 0, 0] rfl (by kernel_rfl) (by kernel_rfl) rfl (by rw [AM.look, if_pos rfl]) (by rfl)
    refine wl ?_ <;> and_intros <;> first | exact hdT | (apply zM; (repeat intro ht); apply zM; (repeat intro hg); apply zM)
    exact C_ret rfl ⟨_, rfl, VLe.refl _⟩
  · refine Pure_at Tryz.func100 rfl 23 rfl (Nat.le_of_ble_eq_true rfl) rfl fun k => ?_
    have kp : Kp [0,1,4] (fun i => i - k) := kpI
    refine wl ?_ <;> and_intros <;> first | exact hdT | (apply zM; (repeat intro ht); apply zM; (repeat intro hg); apply zM)
    refine cl [.raw (some 22) ⟨.lit (.string (ByteArray.mk (mkB8 11).toArray)), k + 1, [], [k]⟩] ?_ <;> and_intros <;> first | exact hdT | (apply zM; (repeat intro ht); apply zM; (repeat intro hg); apply zM)
    · exact bstr_goodT (src := 238) (dst := 9) (id := k) (p := true) 35 [1, 0, 0, 47, 11, 0, 0] rfl (by kernel_rfl) (by kernel_rfl) rfl (by rw [AM.look, if_pos rfl]) (by rfl)
    refine wl ?_ <;> and_intros <;> first | exact hdT | (apply zM; (repeat intro ht); apply zM; (repeat intro hg); apply zM)
    exact C_ret rfl ⟨_, rfl, VLe.refl _⟩
end Go.Proofs.T
end
section
namespace Go.AM
open Go
section
variable {P : Program} {Γ : List (Nat × List AVal)} {o : Oper} {ev : Operand → Option AVal} {get : Nat → Option Blk} {k : Nat}
theorem OpOk_newC {B : Blk} {cells : List AVal} {v : AVal} {rds : List Nat} (hB : RowsAt cells B) (hp : B.pure = true → cells.all clean = true)
    (h : ∀ w G ρ H (A : Allow) (a : Act), HRel Γ w G ρ H → (∀ id, id ∈ rds → ∃ B A', get id = some B ∧ H id = some (B, A') ∧ ∀ i, A' i → A i) →
      (∀ x, x ∈ o.op.operands → ∀ v, ev x = some v → V w G ρ A v (a.eval x)) →
      ∃ (C : Array Value) (ty : TypeId) (w1 : World) (cv : Value), (execOp a.eval o).run P w = .ok (.value cv) (w1.alloc (.cells C ty)) ∧ w1.heap = w.heap ∧ w1.os = w.os ∧ w1.tape = w.tape ∧ w1.output = w.output ∧
        (∀ (j : Nat) u, cells[j]? = some u → ∃ cu, C[j]? = some cu ∧ V w G ρ A u cu) ∧
        (∃ n cap, v = .slc k 0 n cap ∧ cv = .slice (some ⟨w.heap.size, 0, none⟩) n cap ∧ n ≤ cap ∧ cap ≤ maxLen ∧ cap * B.sz ≤ C.size)) :
    OpOk P Γ o ev get k ⟨v, k + 1, [(k, some B)], rds⟩ := by
  intro w G ρ H A a hr hA hf hrd hop next Q hn
  obtain ⟨C, ty, w1, cv, hrun, hw, ho, ht, hou, hC, hv⟩ := h w G ρ H A a hr hrd hop
  have hkA : ¬ A k := fun hk => Nat.lt_irrefl _ (hA k hk)
  obtain ⟨hρ, hfr⟩ := hf k (Nat.le_refl _) (Nat.lt_succ_self _)
  unfold Oper.wp
  rw [hrun]
  have hcon : ∀ r row c v, B.rows[r]? = some row → row[c]? = some v → ∃ cv, C[r * B.sz + c]? = some cv ∧ V w G (if B.pure then noNames else ρ) (if B.pure then noAllow else A) v cv := fun r row c v h1 h2 => by
    have h3 := hB.2 r row c v h1 h2
    obtain ⟨cu, h4, h5⟩ := hC _ v h3
    refine ⟨cu, h4, ?_⟩
    by_cases hpb : B.pure = true
    · simp only [hpb, if_true]; exact clean_V h5 (all_get (hp hpb) h3)
    · simp only [hpb]; exact h5
  have hrel := hr.alloc k hρ hfr B C ty A (fun i => A i ∨ (k ≤ i ∧ i < k + 1)) hkA (fun _ h => .inl h) (.inr ⟨Nat.le_refl _, Nat.lt_succ_self _⟩) hB.1 hcon w1 hw ho ht hou
  have hst := step_alloc (w := w) (G := G) (ρ := ρ) k B.sz (.cells C ty) w1 hw ho ht hou
  refine hn _ G _ cv hrel ?_ ⟨hst.size, hst.keep, hst.shape, hst.g, hst.g', hst.own, fun id hid => hst.ids id (fun he => hid (show k ≤ id ∧ id < k + 1 by omega)), hst.os, hst.tape, hst.output⟩
  obtain ⟨n, cap, rfl, rfl, h1, h2, h3⟩ := hv
  refine .slc (b := w.heap.size) (s := B.sz) (ty := ty) (m := C.size) (.inr ⟨Nat.le_refl _, Nat.lt_succ_self _⟩) (by simp [setN]) ?_ (by simpa using h3) h1 h2 (.inr (by simp))
  have := heap_push_new w1 (.cells C ty)
  rw [hw] at this
  simp [World.shape?, this]
theorem makeC_ok {t s by' : Nat} {x y : Operand} {zrow : List AVal} {kl kc : IntKind} {l c : Int} (ho : o.op = .makeSlice t x y) (hz : ezero P t = some (s, by', zrow)) (hx : ev x = some (.lit (.int kl l))) (hy : ev y = some (.lit (.int kc c)))
    (h0 : 0 ≤ l) (h1 : l ≤ c) (h2 : (by' : Int) * c ≤ 281474976710656) (h3 : c ≤ 9223372036854775807) :
    OpOk P Γ o ev get k ⟨.slc k 0 l.toNat c.toNat, k + 1, [(k, some ⟨s, true, List.replicate c.toNat zrow⟩)], []⟩ := by
  unfold ezero at hz
  split at hz
  · rename_i e hu
    split at hz
    · rename_i i hi
      split at hz
      · rename_i z hzz
        split at hz
        · rename_i hsz
          cases hz
          have hlen : ∀ (r : Nat) row, (List.replicate c.toNat (z.cells.toList.map AVal.lit))[r]? = some row → r < c.toNat ∧ row = z.cells.toList.map AVal.lit := fun r row h => by
            rw [List.getElem?_replicate] at h
            split at h
            · cases h; exact ⟨‹_›, rfl⟩
            · cases h
          refine OpOk_newC (cells := (madeCells z.cells (c.toNat * i.size)).toList.map .lit) ⟨fun r row h => by rw [(hlen r row h).2]; simp [hsz.1], fun r row j v h hj => ?_⟩ (fun _ => by simp [clean]) fun w G ρ H A a hr _ hop => ?_
          · obtain ⟨hr1, rfl⟩ := hlen r row h
            rw [List.getElem?_map] at hj ⊢
            simp only [Option.map_eq_some_iff] at hj ⊢
            obtain ⟨u, hu1, rfl⟩ := hj
            refine ⟨u, ?_, rfl⟩
            have hjlt : j < i.size := by have := (List.getElem?_eq_some_iff.1 hu1).1; simp at this; omega
            rw [Array.getElem?_toList, madeCells_get hsz.1 hsz.2 (by omega) hjlt, ← Array.getElem?_toList]
            exact hu1
          · have hvx := V_bool (hop x (by simp [ho, Op.operands]) _ hx)
            have hvy := V_bool (hop y (by simp [ho, Op.operands]) _ hy)
            have hrun := run_make (P := P) w t e i z hu hi hzz kl kc l c h0 h1 h2 h3
            refine ⟨madeCells z.cells (c.toNat * i.size), e, w, .slice (some ⟨w.heap.size, 0, none⟩) l.toNat c.toNat, by simp [execOp, ho, hvx, hvy, hrun], rfl, rfl, rfl, rfl, fun j u hj => ?_, ⟨l.toNat, c.toNat, rfl, rfl, by omega, by unfold maxLen; omega, by rw [size_madeCells]; exact Nat.le_refl _⟩⟩
            rw [List.getElem?_map] at hj
            simp only [Option.map_eq_some_iff] at hj
            obtain ⟨u', hu1, rfl⟩ := hj
            exact ⟨u', by rw [← Array.getElem?_toList]; exact hu1, .lit⟩
        · cases hz
      · cases hz
    · cases hz
  · cases hz
theorem makeC_good {t s by' : Nat} {x y : Operand} {zrow : List AVal} {kl kc : IntKind} {l c : Int} (ho : o.op = .makeSlice t x y) (hz : ezero P t = some (s, by', zrow)) (hx : ev x = some (.lit (.int kl l))) (hy : ev y = some (.lit (.int kc c)))
    (h0 : 0 ≤ l) (h1 : l ≤ c) (h2 : (by' : Int) * c ≤ 281474976710656) (h3 : c ≤ 9223372036854775807) (n q : Nat) (hn : n = l.toNat) (hq : q = c.toNat) :
    Good P Γ o ev get k ⟨.slc k 0 n q, k + 1, [(k, some ⟨s, true, List.replicate q zrow⟩)], []⟩ := by
  subst hn hq
  exact ⟨makeC_ok ho hz hx hy h0 h1 h2 h3, fun id hid => by simp at hid, Nat.le_succ _⟩
end
end Go.AM
end
section
namespace Go.Proofs.T
open Go Go.AM Go.Proofs Go.Lib
set_option maxRecDepth 20000
variable {Γ : List (Nat × List AVal)}
attribute [local irreducible] putO del
attribute [local go_sem] strs
theorem bd_slc (p : Nat → Bool) (id r n c : Nat) : bd p (.slc id r n c) = p id := rfl
attribute [local go_sem] bd_slc
def rowU (w : List UInt8) : List AVal := [.lit (.string (ByteArray.mk w.toArray))]
def zrU : List AVal := [.lit (.string (ByteArray.mk #[]))]
def lentR (l : List (List UInt8)) (j : Nat) : List (List AVal) := l.map rowU ++ (List.range j).map (fun i => rowU (mkB8 i)) ++ List.replicate (12 - j) zrU
theorem lentR_len (l : List (List UInt8)) {j : Nat} (hj : j ≤ 12) : (lentR l j).length = l.length + 12 := by simp [lentR]; omega
theorem lentR_zero (l : List (List UInt8)) : setRows (List.replicate (l.length + 12) zrU) (l.map rowU) 0 = lentR l 0 := by simp [setRows, lentR, List.drop_replicate]
theorem lentR_succ (l : List (List UInt8)) {j : Nat} (hj : j < 12) : setRows (lentR l j) [rowU (mkB8 j)] (l.length + j) = lentR l (j + 1) := by
  obtain ⟨q, e1, e2⟩ : ∃ q, 12 - j = q + 1 ∧ 12 - (j + 1) = q := ⟨_, by omega, rfl⟩
  obtain ⟨A, eA, hA⟩ : ∃ A, A = l.map rowU ++ (List.range j).map (fun i => rowU (mkB8 i)) ∧ A.length = l.length + j := ⟨_, rfl, by simp⟩
  unfold setRows lentR
  rw [e1, e2, List.range_succ, List.map_append, ← List.append_assoc, ← eA, List.take_left' hA, List.length_singleton, ← List.drop_drop, List.drop_left' hA]
  rfl
theorem lent_t (l : List (List UInt8)) (hl : l.length ≤ 1000) (k : Nat) : AM.Tr Tryz.prog Γ 40 k [strs l] [] (fun k1 r1 H1 => k1 = k + 1 ∧ r1 = .slc k 0 l.length (l.length + 12) ∧ H1 = [(k, ⟨1, true, lentR l 12⟩)]) := by
  obtain ⟨n, en⟩ : ∃ n, n = l.length := ⟨_, rfl⟩
  have hwn : IntKind.i64.wrap ((n : Int) + 12) = (n : Int) + 12 := wrap_i64 (by omega) (by omega)
  obtain ⟨Z, eZ⟩ : ∃ Z, Z = List.replicate (n + 12) zrU := ⟨_, rfl⟩
  have hZl : Z.length = n + 12 := by rw [eZ]; simp
  refine Tr_at Tryz.func40 rfl 25 rfl (Nat.le_of_ble_eq_true rfl) ?_
  refine C_seq rfl ?_; (refine S_reg0 rfl [0,2,3,4,13] rfl rfl (fun K hK => ?_)); simp -dsimp -implicitDefEqProofs only [go_sem, ← en, hwn, eq_self, ↓reduceIte]; (refine hK _ _ _ _ (fun hx => ?_)); clear hx hK; simp -dsimp -implicitDefEqProofs only [go_sem, ← en, hwn, eq_self, ↓reduceIte]; clear K
  refine C_seq rfl ?_
  have kp : Kp [0,2,3,4,13] (fun i => i - k) := kpI
  have uU := And.intro (Eq.symm (en)) (@hwn)
  refine cl [.raw (some 8) ⟨.slc k 0 0 (n + 12), k + 1, [(k, some ⟨1, true, Z⟩)], []⟩] ?_ <;> and_intros <;> first | exact hdT | (apply zM; (repeat intro ht); apply zM; (repeat intro hg); apply zM)
  · rw [eZ]; exact makeC_good (by' := 16) rfl y1 rfl rfl (by omega) (by omega) (by omega) (by omega) _ _ rfl (by omega)
  refine C_seq rfl ?_
  refine M_cutO [0,2,3,4,13] (k + 1) [(3, .slc k 0 n (n + 12))] [(k, ⟨1, true, lentR l 0⟩)] ?_ ?_
  · rcases l with _ | ⟨w0, l⟩
    · have hn0 : n = 0 := en
      subst hn0
      refine cl [.raw (some 11) ⟨.slc k 0 0 12, k + 1, [], [k]⟩] ?_ <;> and_intros <;> first | exact hdT | (apply zM; (repeat intro ht); apply zM; (repeat intro hg); apply zM)
      · exact app0_good rfl y1 rfl (by rw [AM.look, if_pos rfl]) rfl (.rd)
      rw [show lentR [] 0 = Z by rw [eZ]; rfl]
      exact Mv.wk (wk_low (by omega) (by simp -dsimp -implicitDefEqProofs only [go_sem, ← en, hwn, List.map_append, Flt.row, eq_self, ↓reduceIte]) (by simp -dsimp -implicitDefEqProofs only [go_sem, ← en, hwn, List.map_append, Flt.row, eq_self, ↓reduceIte]) (by simp -dsimp -implicitDefEqProofs only [go_sem, ← en, hwn, List.map_append, Flt.row, eq_self, ↓reduceIte]) (by simp -dsimp -implicitDefEqProofs only [go_sem, ← en, hwn, List.map_append, Flt.row, eq_self, ↓reduceIte]))
    · refine cl [.raw (some 11) ⟨.slc k 0 n (n + 12), k + 1, [(k, some ⟨1, true, lentR (w0 :: l) 0⟩)], [k]⟩] ?_ <;> and_intros <;> first | exact hdT | (apply zM; (repeat intro ht); apply zM; (repeat intro hg); apply zM)
      · rw [← lentR_zero, ← en, ← eZ, show (w0 :: l).map rowU = (List.range n).map (fun i => [AVal.lit (.string (str ((w0 :: l).getD i [])))]) by
          rw [en]
          apply List.ext_getElem
          · simp
          · intro i h1 h2
            rw [List.length_map] at h1
            simp only [List.getElem_map, List.getElem_range, rowU, str]
            rw [List.getD_eq_getElem?_getD, List.getElem?_eq_getElem h1]; rfl]
        exact appin_goodE (B := ⟨1, true, Z⟩) rfl y1 rfl (by rw [AM.look, if_pos rfl]) rfl rfl .rd (by simp only [List.all_map, List.all_eq_true]; intro x _; rfl) (by rw [en]; simp) (by omega) (by show 0 ≤ Z.length; omega) (by omega) rfl
      exact Mv.wk (wk_low (by omega) (by simp -dsimp -implicitDefEqProofs only [go_sem, ← en, hwn, List.map_append, Flt.row, eq_self, ↓reduceIte]) (by simp -dsimp -implicitDefEqProofs only [go_sem, ← en, hwn, List.map_append, Flt.row, eq_self, ↓reduceIte]) (by simp -dsimp -implicitDefEqProofs only [go_sem, ← en, hwn, List.map_append, Flt.row, eq_self, ↓reduceIte]) (by simp -dsimp -implicitDefEqProofs only [go_sem, ← en, hwn, List.map_append, Flt.row, eq_self, ↓reduceIte]))
  refine rR ?_ <;> first | exact hdT | apply zN
  refine wl ?_ <;> and_intros <;> first | exact hdT | (apply zM; (repeat intro ht); apply zM; (repeat intro hg); apply zM)
  refine M_forO (X := Nat) rfl [0,2,3,4,13] (k + 1) (fun j => [(4, .lit (.int .i64 (j : Int))), (3, .slc k 0 (n + j) (n + 12))]) (fun j => [(k, ⟨1, true, lentR l j⟩)]) (fun j => j ≤ 12) (fun j => 12 - j) 0 ?_ (Nat.zero_le _) ?_
  · rw [Nat.add_zero]
    exact Mv.wk (wk_low (by omega) (by simp -dsimp -implicitDefEqProofs only [go_sem, ← en, hwn, List.map_append, Flt.row, eq_self, ↓reduceIte]) (by simp -dsimp -implicitDefEqProofs only [go_sem, ← en, hwn, List.map_append, Flt.row, eq_self, ↓reduceIte]) (by simp -dsimp -implicitDefEqProofs only [go_sem, ← en, hwn, List.map_append, Flt.row, eq_self, ↓reduceIte]) (by simp -dsimp -implicitDefEqProofs only [go_sem, ← en, hwn, List.map_append, Flt.row, eq_self, ↓reduceIte]))
  intro j hj
  by_cases hlt : j < 12
  · have hm := mark_t (Γ := Γ) j hlt
    obtain ⟨M, eM⟩ : ∃ M, M = mkB8 j := ⟨_, rfl⟩
    have hs := lentR_succ l hlt
    have hll := lentR_len l (show j ≤ 12 by omega)
    rw [← eM] at hm hs
    obtain ⟨A, eA⟩ : ∃ A, A = lentR l j := ⟨_, rfl⟩
    obtain ⟨A', eA'⟩ : ∃ A', A' = lentR l (j + 1) := ⟨_, rfl⟩
    rw [← eA] at hs hll
    rw [← eA'] at hs
    rw [← eA]
    refine rR ?_ <;> first | exact hdT | apply zN
    refine wl ?_ <;> and_intros <;> first | exact hdT | (apply zM; (repeat intro ht); apply zM; (repeat intro hg); apply zM)
    refine cl [.ret (.lit (.string (ByteArray.mk M.toArray))), .raw (some 20) ⟨.slc k 0 (n + j + 1) (n + 12), k + 2, [(k, some ⟨1, true, A'⟩)], [k, k + 1]⟩] ?_ <;> and_intros <;> first | exact hdT | (apply zM; (repeat intro ht); apply zM; (repeat intro hg); apply zM)
    · rw [← hs, ← en]
      exact appin_goodE (B := ⟨1, true, A⟩) rfl y1 rfl (by rw [AM.look, if_neg (by omega), AM.look, if_pos rfl]) rfl rfl (.sl (B := ⟨1, true, [rowU M]⟩) (by rw [AM.look, if_pos rfl]; rfl) (by simp)) rfl (by omega) (by omega) (by show n + j ≤ A.length; omega) rfl rfl
    refine wl ?_ <;> and_intros <;> first | exact hdT | (apply zM; (repeat intro ht); apply zM; (repeat intro hg); apply zM)
    refine ⟨j + 1, by omega, by omega, ?_⟩
    rw [← eA', show ((j + 1 : Nat) : Int) = (j : Int) + 1 by omega, show n + (j + 1) = n + j + 1 by omega]
    exact Mv.wk (wk_low (by omega) (by simp -dsimp -implicitDefEqProofs only [go_sem, ← en, hwn, List.map_append, Flt.row, eq_self, ↓reduceIte]) (by simp -dsimp -implicitDefEqProofs only [go_sem, ← en, hwn, List.map_append, Flt.row, eq_self, ↓reduceIte]) (by simp -dsimp -implicitDefEqProofs only [go_sem, ← en, hwn, List.map_append, Flt.row, eq_self, ↓reduceIte]) (by simp -dsimp -implicitDefEqProofs only [go_sem, ← en, hwn, List.map_append, Flt.row, eq_self, ↓reduceIte]))
  · have hje : j = 12 := by omega
    subst hje
    refine rR ?_ <;> first | exact hdT | apply zN
    refine wl ?_ <;> and_intros <;> first | exact hdT | (apply zM; (repeat intro ht); apply zM; (repeat intro hg); apply zM)
    refine cl [.raw (some 24) ⟨.slc k 0 n (n + 12), k + 1, [], [k]⟩] ?_ <;> and_intros <;> first | exact hdT | (apply zM; (repeat intro ht); apply zM; (repeat intro hg); apply zM)
    · exact slc_goodE (B := ⟨1, true, lentR l 12⟩) (l := 0) (h := (n : Int)) rfl (by rw [AM.look, if_pos rfl]) (by kernel_rfl) rfl rfl rfl (by omega) (by omega) (by omega) rfl (by omega) (by omega)
    refine wl ?_ <;> and_intros <;> first | exact hdT | (apply zM; (repeat intro ht); apply zM; (repeat intro hg); apply zM)
    exact C_ret rfl ⟨_, rfl, rfl, rfl, rfl⟩
theorem Good_sl {P : Program} {o : Oper} {ev : Operand → Option AVal} {get : Nat → Option Blk} {k k' id r n c : Nat} {upd : List (Nat × Option Blk)} {rds : List Nat} (h : AM.Good P Γ o ev get k ⟨.slc id r n c, k', upd, rds⟩) : AM.Good P Γ o ev get k ⟨.sl id r n, k', upd, rds⟩ :=
  ⟨fun w G ρ H A a hr hA hf hrd hop next Q hn => h.1 w G ρ H A a hr hA hf hrd hop next Q (fun w1 G1 ρ1 cv r1 v1 s1 => hn w1 G1 ρ1 cv r1 (VLe.slc _ _ _ _ _ _ _ _ _ v1) s1), h.2, h.3⟩
theorem kept_t (l : List (List UInt8)) (hl : l.length ≤ 1000) (k id : Nat) (hid : id < k) : AM.Tr Tryz.prog Γ 44 k [.slc id 0 l.length (l.length + 12), strs l] [(id, ⟨1, true, lentR l 12⟩)] (fun k1 r1 H1 => k1 = k ∧ r1 = .lit (.bool true) ∧ H1 = [(id, ⟨1, true, lentR l 12⟩)]) := by
  obtain ⟨n, en⟩ : ∃ n, n = l.length := ⟨_, rfl⟩
  obtain ⟨m, em⟩ : ∃ m, m = n + 12 := ⟨_, rfl⟩
  have hwn : IntKind.i64.wrap ((n : Int) + 12) = (m : Int) := by rw [wrap_i64 (by omega) (by omega)]; omega
  obtain ⟨A, eA, hA⟩ : ∃ A, A = lentR l 12 ∧ A.length = m := ⟨_, rfl, by rw [lentR_len l (Nat.le_refl _), em, en]⟩
  rw [← eA, ← en, ← em]
  have hlk : ∀ B : Blk, AM.look [(id, B)] id = some B := fun B => by rw [AM.look, if_pos rfl]
  refine Tr_at Tryz.func44 rfl 58 rfl (Nat.le_of_ble_eq_true rfl) ?_
  have kp : Kp [0,1,4,5,6,11,20,57] (fun i => i - k) := kpI
  have uU := And.intro (Eq.symm (en)) (zA @hwn @hid)
  refine wl ?_ <;> and_intros <;> first | exact hdT | (apply zM; (repeat intro ht); apply zM; (repeat intro hg); apply zM)
  refine cl [.raw (some 8) ⟨.lit (.int .i64 (n : Int)), k, [], [id]⟩] ?_ <;> and_intros <;> first | exact hdT | (apply zM; (repeat intro ht); apply zM; (repeat intro hg); apply zM)
  · exact lenc_good (B := ⟨1, true, A⟩) rfl (by kernel_rfl) rfl (hlk _)
  refine wl ?_ <;> and_intros <;> first | exact hdT | (apply zM; (repeat intro ht); apply zM; (repeat intro hg); apply zM)
  refine cl [.raw (some 16) ⟨.sl id 0 m, k, [], [id]⟩] ?_ <;> and_intros <;> first | exact hdT | (apply zM; (repeat intro ht); apply zM; (repeat intro hg); apply zM)
  · exact Good_sl (c := m) (slc_goodE (B := ⟨1, true, A⟩) (l := 0) (h := (m : Int)) rfl (hlk _) (by kernel_rfl) rfl rfl rfl (by omega) (by omega) (by omega) rfl (by omega) (by omega))
  refine wl ?_ <;> and_intros <;> first | exact hdT | (apply zM; (repeat intro ht); apply zM; (repeat intro hg); apply zM)
  refine M_forO (X := Nat) rfl [0,1,4,5,6,11,20,57] k (fun j => [(6, .lit (.int .i64 (j : Int)))]) (fun j => [(id, ⟨1, true, A⟩)]) (fun j => j ≤ m) (fun j => m - j) 0 ?_ (Nat.zero_le _) ?_
  · refine rR ?_ <;> first | exact hdT | apply zN
    exact Mv.wk (wk_low (by omega) (by simp -dsimp -implicitDefEqProofs only [go_sem, ← en, hwn, hid, List.map_append, Flt.row, eq_self, ↓reduceIte]) (by simp -dsimp -implicitDefEqProofs only [go_sem, ← en, hwn, hid, List.map_append, Flt.row, eq_self, ↓reduceIte]) (by simp -dsimp -implicitDefEqProofs only [go_sem, ← en, hwn, hid, List.map_append, Flt.row, eq_self, ↓reduceIte]) (by simp -dsimp -implicitDefEqProofs only [go_sem, ← en, hwn, hid, List.map_append, Flt.row, eq_self, ↓reduceIte]))
  intro j hj
  by_cases hlt : j < m
  · by_cases hjn : j < n
    · obtain ⟨w, ew⟩ : ∃ w, w = l.getD j [] := ⟨_, rfl⟩
      have hr : A[j]? = some [.lit (.string (ByteArray.mk w.toArray))] := by
        rw [eA, lentR, List.append_assoc, List.getElem?_append_left (by rw [List.length_map]; omega), List.getElem?_map, ew, List.getD_eq_getElem?_getD, List.getElem?_eq_getElem (by omega)]; rfl
      have hgd := ew.symm
      have hbb : (w == w) = true := beq_self_eq_true w
      have uU := zA @hlt (zA @hjn (zA @hr (zA @hgd (zA @hbb (zA @hA @hid)))))
      refine rR ?_ <;> first | exact hdT | apply zN
      refine wl ?_ <;> and_intros <;> first | exact hdT | (apply zM; (repeat intro ht); apply zM; (repeat intro hg); apply zM)
      refine dl [] ?_ <;> and_intros <;> first | exact hdT | (apply zM; (repeat intro ht); apply zM; (repeat intro hg); apply zM)
      refine wl ?_ <;> and_intros <;> first | exact hdT | (apply zM; (repeat intro ht); apply zM; (repeat intro hg); apply zM)
      refine ⟨j + 1, by omega, by omega, ?_⟩
      rw [show ((j + 1 : Nat) : Int) = (j : Int) + 1 by omega]
      (have uU := zA @hlt (zA @hjn (zA @hr (zA @hgd (zA @hbb (zA @hA @hid))))); exact wkU)
    · obtain ⟨q, eq, hq⟩ : ∃ q, j = n + q ∧ q < 12 := ⟨j - n, by omega, by omega⟩
      have hm := mark_t (Γ := Γ) q hq
      obtain ⟨w, ew⟩ : ∃ w, w = mkB8 q := ⟨_, rfl⟩
      rw [← ew] at hm
      have hr : A[j]? = some [.lit (.string (ByteArray.mk w.toArray))] := by
        rw [eA, lentR, List.getElem?_append_left (by simp; omega), List.getElem?_append_right (by rw [List.length_map]; omega), List.length_map, show j - l.length = q by omega, List.getElem?_map, List.getElem?_range hq, ew]; rfl
      have hbb : (w == w) = true := beq_self_eq_true w
      have hwq : IntKind.i64.wrap (q : Int) = (q : Int) := wrap_i64 (by omega) (by omega)
      have hsq : (j : Int) - (n : Int) = (q : Int) := by omega
      have uU := zA @hlt (zA @hjn (zA @hr (zA @hbb (zA @hA (zA @hwq (zA @hsq (And.intro (Eq.symm (en)) (@hid))))))))
      refine rR ?_ <;> first | exact hdT | apply zN
      refine wl ?_ <;> and_intros <;> first | exact hdT | (apply zM; (repeat intro ht); apply zM; (repeat intro hg); apply zM)
      refine dl [.ret (.lit (.string (ByteArray.mk w.toArray)))] ?_ <;> and_intros <;> first | exact hdT | (apply zM; (repeat intro ht); apply zM; (repeat intro hg); apply zM)
      refine wl ?_ <;> and_intros <;> first | exact hdT | (apply zM; (repeat intro ht); apply zM; (repeat intro hg); apply zM)
      refine ⟨j + 1, by omega, by omega, ?_⟩
      rw [show ((j + 1 : Nat) : Int) = (j : Int) + 1 by omega]
      exact Mv.wk (wk_low (by omega) (by simp -dsimp -implicitDefEqProofs only [go_sem, hlt, hjn, hr, hbb, hA, hwq, hsq, ← en, hid, List.map_append, Flt.row, eq_self, ↓reduceIte]) (by simp -dsimp -implicitDefEqProofs only [go_sem, hlt, hjn, hr, hbb, hA, hwq, hsq, ← en, hid, List.map_append, Flt.row, eq_self, ↓reduceIte]) (by simp -dsimp -implicitDefEqProofs only [go_sem, hlt, hjn, hr, hbb, hA, hwq, hsq, ← en, hid, List.map_append, Flt.row, eq_self, ↓reduceIte]) (by simp -dsimp -implicitDefEqProofs only [go_sem, hlt, hjn, hr, hbb, hA, hwq, hsq, ← en, hid, List.map_append, Flt.row, eq_self, ↓reduceIte]))
  · have hje : j = m := by omega
    subst hje
    have uU := zA @hid @hA
    refine rR ?_ <;> first | exact hdT | apply zN
    refine wl ?_ <;> and_intros <;> first | exact hdT | (apply zM; (repeat intro ht); apply zM; (repeat intro hg); apply zM)
    exact C_ret rfl ⟨_, rfl, rfl, rfl, rfl⟩
end Go.Proofs.T
end
