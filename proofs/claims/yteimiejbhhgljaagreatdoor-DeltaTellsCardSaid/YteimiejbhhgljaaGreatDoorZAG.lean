import Derived.Test.YteimiejbhhgljaaGreatDoorZAF
import Derived.Test.YteimiejbhhgljaaGreatDoorProg
import Derived.KernelRfl
import Derived.Laws.Bits64
set_option linter.unusedVariables false
set_option linter.unusedSimpArgs false
section
namespace Go.AM
structure Hd (G : Prop) : Prop where
  o : G
structure Mk : Prop where
  o : True
structure Kp (l : List Nat) (g : Nat → Nat) : Prop where
  o : True
structure Os (l : List Orc) : Prop where
theorem zM {G : Prop} (h : G) : Hd G := ⟨h⟩
theorem zN {G : Prop} (h : G) : Hd (Hd G) := ⟨⟨h⟩⟩
theorem zA {a b : Prop} (h : a) (k : b) : a ∧ b := ⟨h, k⟩
theorem hdT : Hd True := ⟨trivial⟩
theorem uU : (true && true) = true := rfl
theorem zq0 : Hd True ∧ Hd True ∧ Hd True ∧ Hd True ∧ Hd True ∧ Hd True ∧ Hd True ∧ Hd True ∧ Hd True ∧ Hd True ∧ Hd True ∧ Hd True := ⟨hdT, hdT, hdT, hdT, hdT, hdT, hdT, hdT, hdT, hdT, hdT, hdT⟩
theorem zq1 {P0 : Prop} (a0 : Hd P0) : Hd P0 ∧ Hd True ∧ Hd True ∧ Hd True ∧ Hd True ∧ Hd True ∧ Hd True ∧ Hd True ∧ Hd True ∧ Hd True ∧ Hd True ∧ Hd True := ⟨a0, hdT, hdT, hdT, hdT, hdT, hdT, hdT, hdT, hdT, hdT, hdT⟩
theorem zq2 {P0 P1 : Prop} (a0 : Hd P0) (a1 : Hd P1) : Hd P0 ∧ Hd P1 ∧ Hd True ∧ Hd True ∧ Hd True ∧ Hd True ∧ Hd True ∧ Hd True ∧ Hd True ∧ Hd True ∧ Hd True ∧ Hd True := ⟨a0, a1, hdT, hdT, hdT, hdT, hdT, hdT, hdT, hdT, hdT, hdT⟩
theorem zq3 {P0 P1 P2 : Prop} (a0 : Hd P0) (a1 : Hd P1) (a2 : Hd P2) : Hd P0 ∧ Hd P1 ∧ Hd P2 ∧ Hd True ∧ Hd True ∧ Hd True ∧ Hd True ∧ Hd True ∧ Hd True ∧ Hd True ∧ Hd True ∧ Hd True := ⟨a0, a1, a2, hdT, hdT, hdT, hdT, hdT, hdT, hdT, hdT, hdT⟩
theorem zq4 {P0 P1 P2 P3 : Prop} (a0 : Hd P0) (a1 : Hd P1) (a2 : Hd P2) (a3 : Hd P3) : Hd P0 ∧ Hd P1 ∧ Hd P2 ∧ Hd P3 ∧ Hd True ∧ Hd True ∧ Hd True ∧ Hd True ∧ Hd True ∧ Hd True ∧ Hd True ∧ Hd True := ⟨a0, a1, a2, a3, hdT, hdT, hdT, hdT, hdT, hdT, hdT, hdT⟩
theorem zq5 {P0 P1 P2 P3 P4 : Prop} (a0 : Hd P0) (a1 : Hd P1) (a2 : Hd P2) (a3 : Hd P3) (a4 : Hd P4) : Hd P0 ∧ Hd P1 ∧ Hd P2 ∧ Hd P3 ∧ Hd P4 ∧ Hd True ∧ Hd True ∧ Hd True ∧ Hd True ∧ Hd True ∧ Hd True ∧ Hd True := ⟨a0, a1, a2, a3, a4, hdT, hdT, hdT, hdT, hdT, hdT, hdT⟩
theorem zq6 {P0 P1 P2 P3 P4 P5 : Prop} (a0 : Hd P0) (a1 : Hd P1) (a2 : Hd P2) (a3 : Hd P3) (a4 : Hd P4) (a5 : Hd P5) : Hd P0 ∧ Hd P1 ∧ Hd P2 ∧ Hd P3 ∧ Hd P4 ∧ Hd P5 ∧ Hd True ∧ Hd True ∧ Hd True ∧ Hd True ∧ Hd True ∧ Hd True := ⟨a0, a1, a2, a3, a4, a5, hdT, hdT, hdT, hdT, hdT, hdT⟩
theorem zq7 {P0 P1 P2 P3 P4 P5 P6 : Prop} (a0 : Hd P0) (a1 : Hd P1) (a2 : Hd P2) (a3 : Hd P3) (a4 : Hd P4) (a5 : Hd P5) (a6 : Hd P6) : Hd P0 ∧ Hd P1 ∧ Hd P2 ∧ Hd P3 ∧ Hd P4 ∧ Hd P5 ∧ Hd P6 ∧ Hd True ∧ Hd True ∧ Hd True ∧ Hd True ∧ Hd True := ⟨a0, a1, a2, a3, a4, a5, a6, hdT, hdT, hdT, hdT, hdT⟩
theorem zq8 {P0 P1 P2 P3 P4 P5 P6 P7 : Prop} (a0 : Hd P0) (a1 : Hd P1) (a2 : Hd P2) (a3 : Hd P3) (a4 : Hd P4) (a5 : Hd P5) (a6 : Hd P6) (a7 : Hd P7) : Hd P0 ∧ Hd P1 ∧ Hd P2 ∧ Hd P3 ∧ Hd P4 ∧ Hd P5 ∧ Hd P6 ∧ Hd P7 ∧ Hd True ∧ Hd True ∧ Hd True ∧ Hd True := ⟨a0, a1, a2, a3, a4, a5, a6, a7, hdT, hdT, hdT, hdT⟩
theorem zq9 {P0 P1 P2 P3 P4 P5 P6 P7 P8 : Prop} (a0 : Hd P0) (a1 : Hd P1) (a2 : Hd P2) (a3 : Hd P3) (a4 : Hd P4) (a5 : Hd P5) (a6 : Hd P6) (a7 : Hd P7) (a8 : Hd P8) : Hd P0 ∧ Hd P1 ∧ Hd P2 ∧ Hd P3 ∧ Hd P4 ∧ Hd P5 ∧ Hd P6 ∧ Hd P7 ∧ Hd P8 ∧ Hd True ∧ Hd True ∧ Hd True := ⟨a0, a1, a2, a3, a4, a5, a6, a7, a8, hdT, hdT, hdT⟩
theorem zq10 {P0 P1 P2 P3 P4 P5 P6 P7 P8 P9 : Prop} (a0 : Hd P0) (a1 : Hd P1) (a2 : Hd P2) (a3 : Hd P3) (a4 : Hd P4) (a5 : Hd P5) (a6 : Hd P6) (a7 : Hd P7) (a8 : Hd P8) (a9 : Hd P9) : Hd P0 ∧ Hd P1 ∧ Hd P2 ∧ Hd P3 ∧ Hd P4 ∧ Hd P5 ∧ Hd P6 ∧ Hd P7 ∧ Hd P8 ∧ Hd P9 ∧ Hd True ∧ Hd True := ⟨a0, a1, a2, a3, a4, a5, a6, a7, a8, a9, hdT, hdT⟩
theorem zq11 {P0 P1 P2 P3 P4 P5 P6 P7 P8 P9 P10 : Prop} (a0 : Hd P0) (a1 : Hd P1) (a2 : Hd P2) (a3 : Hd P3) (a4 : Hd P4) (a5 : Hd P5) (a6 : Hd P6) (a7 : Hd P7) (a8 : Hd P8) (a9 : Hd P9) (a10 : Hd P10) : Hd P0 ∧ Hd P1 ∧ Hd P2 ∧ Hd P3 ∧ Hd P4 ∧ Hd P5 ∧ Hd P6 ∧ Hd P7 ∧ Hd P8 ∧ Hd P9 ∧ Hd P10 ∧ Hd True := ⟨a0, a1, a2, a3, a4, a5, a6, a7, a8, a9, a10, hdT⟩
theorem zq12 {P0 P1 P2 P3 P4 P5 P6 P7 P8 P9 P10 P11 : Prop} (a0 : Hd P0) (a1 : Hd P1) (a2 : Hd P2) (a3 : Hd P3) (a4 : Hd P4) (a5 : Hd P5) (a6 : Hd P6) (a7 : Hd P7) (a8 : Hd P8) (a9 : Hd P9) (a10 : Hd P10) (a11 : Hd P11) : Hd P0 ∧ Hd P1 ∧ Hd P2 ∧ Hd P3 ∧ Hd P4 ∧ Hd P5 ∧ Hd P6 ∧ Hd P7 ∧ Hd P8 ∧ Hd P9 ∧ Hd P10 ∧ Hd P11 := ⟨a0, a1, a2, a3, a4, a5, a6, a7, a8, a9, a10, a11⟩
theorem two {Q : Prop} (x : Q) (_ : True) : Q := x
theorem kpI {l : List Nat} {g : Nat → Nat} : Kp l g := ⟨trivial⟩
section
variable {P : Program} {Γ : List (Nat × List AVal)} {nt kb : Nat} {Q : AQ} {k : Nat} {fr : Fr} {H : Heap} {c : Code} {p : List Nat} {keep : List Nat} {g : Nat → Nat}
theorem S_reg0K (_ : Kp keep g) {id : Nat} {l : List Oper} (hc : cat c p = .region id l.toArray false) (hn : (l.all fun o => !isCall o && !rawOp o) = true) (hd : dstOk nt l.toArray = true)
    (h : ∀ K : List Foot → Nat → Fr → Heap → Prop, (∀ tr k' fr' H', (kb ≤ k' → Q .normal k' (restr keep fr') H') → K tr k' fr' H') → RunS P Γ l.toArray l [] k fr H K .mk) : W P Γ nt kb (cat c p) Q k fr H := S_reg0 hc keep hn hd h
theorem S_drw0K (_ : Kp keep g) {id : Nat} {l : List Oper} (hc : cat c p = .region id l.toArray true) (hn : (l.all fun o => !isCall o && !rawOp o) = true) (hm : P.follows .mixedOrders = true) (hd : dstOk nt l.toArray = true)
    (h : ∀ K : List Foot → Nat → Fr → Heap → Prop, (∀ tr k' fr' H', drawOk l.toArray tr = true → (kb ≤ k' → Q .normal k' (restr keep fr') H') → K tr k' fr' H') → RunS P Γ l.toArray l [] k fr H K .mk) : W P Γ nt kb (cat c p) Q k fr H := S_drw0 hc keep hn hm hd h
theorem S_regK (_ : Kp keep g) {cs : List Orc} (_ : Os cs) {id : Nat} {l : List Oper} (hc : cat c p = .region id l.toArray false) (hd : dstOk nt l.toArray = true)
    (h : ∀ K : List Foot → Nat → Fr → Heap → Prop, (∀ tr k' fr' H', (kb ≤ k' → Q .normal k' (restr keep fr') H') → K tr k' fr' H') → RunS P Γ l.toArray l cs k fr H K .mk) : W P Γ nt kb (cat c p) Q k fr H := S_reg hc keep cs hd h
theorem S_drwK (_ : Kp keep g) {cs : List Orc} (_ : Os cs) {id : Nat} {l : List Oper} (hc : cat c p = .region id l.toArray true) (hm : P.follows .mixedOrders = true) (hd : dstOk nt l.toArray = true)
    (h : ∀ K : List Foot → Nat → Fr → Heap → Prop, (∀ tr k' fr' H', drawOk l.toArray tr = true → (kb ≤ k' → Q .normal k' (restr keep fr') H') → K tr k' fr' H') → RunS P Γ l.toArray l cs k fr H K .mk) : W P Γ nt kb (cat c p) Q k fr H := S_drw hc keep cs hm hd h
end
theorem drawKN {keep : List Nat} {g : Nat → Nat} (_ : Kp keep g) {ops : Array Oper} {tr : List Foot} {L : List (List Nat × List Nat)} (hL : tr.map (shG g) = L) (h : drawN ops L = true) (hm : (tr.all fun f => f.mods.all fun x => decide (x < f.k')) = true) : drawOk ops tr = true := drawOk_names g hL h hm
theorem wl {Q P1 P2 P3 P4 P5 P6 P7 P8 P9 P10 P11 P12 : Prop} (p : Hd P1 ∧ Hd P2 ∧ Hd P3 ∧ Hd P4 ∧ Hd P5 ∧ Hd P6 ∧ Hd P7 ∧ Hd P8 ∧ Hd P9 ∧ Hd P10 ∧ Hd P11 ∧ Hd P12)
    (h : Hd P1 → Hd P2 → Hd P3 → Hd P4 → Hd P5 → Hd P6 → Hd P7 → Hd P8 → Hd P9 → Hd P10 → Hd P11 → Hd P12 → Q := by
  intro a1 a2 a3 a4 a5 a6 a7 a8 a9 a10 a11 a12
  refine two ?_ ?_
  · (repeat' (first | (refine C_seq rfl ?_) | (refine C_block rfl ?_) | (refine C_skip rfl ?_; (try simp -dsimp -implicitDefEqProofs only [go_sem, uU, eq_self, ↓reduceIte])) | (refine C_exit rfl ?_; (try simp -dsimp -implicitDefEqProofs only [go_sem, uU, eq_self, ↓reduceIte])) | (refine C_cond rfl _ rfl (fun zt => ?_) (fun zt => ?_) <;> (try (simp only [nf] at zt)) <;> (try (exfalso; omega))) | ((first | (refine S_reg0K kp rfl rfl rfl (fun zK hK => ?_)) | (refine S_drw0K kp rfl rfl (by kernel_rfl) rfl (fun zK hK => ?_))); simp -dsimp -implicitDefEqProofs only [go_sem, uU, eq_self, ↓reduceIte]; (repeat' (first | (refine And.intro ?_ ?_) | (refine gs_both (fun hb => ?_) (fun hb => ?_) <;> (have zg := hb; (try simp only [nfb] at zg); simp -dsimp -implicitDefEqProofs only [go_sem, uU, hb, zg, eq_self, ↓reduceIte]; clear hb; (try simp only [nfe] at zg))))); any_goals ((first | refine hK _ _ _ _ (fun hx => ?_) | refine hK _ _ _ _ (drawKN kp (by simp only [List.map_cons, List.map_nil, shG, uU, ↓reduceIte, Nat.add_sub_cancel_left, Nat.sub_self]; rfl) (by decide +kernel) (by simp -dsimp -implicitDefEqProofs only [go_sem, uU, eq_self, ↓reduceIte])) (fun hx => ?_) | refine hK _ _ _ _ (drawOk_of (by kernel_rfl) (by simp -dsimp -implicitDefEqProofs only [go_sem, uU, eq_self, ↓reduceIte])) (fun hx => ?_)); clear hx hK; simp -dsimp -implicitDefEqProofs only [go_sem, uU, eq_self, ↓reduceIte]; (try simp (disch := omega) only [wrap_i64, wrap_u64, wrap_u32, wrap_u8]))) | omega))
    all_goals (refine Hd.o ?_; (repeat revert zg); refine Hd.o ?_; (repeat revert zt); first | ((fail_if_success (fail_if_success (have zz : Hd Mk := a1))); exact Hd.o a1) | ((fail_if_success (fail_if_success (have zz : Hd Mk := a2))); exact Hd.o a2) | ((fail_if_success (fail_if_success (have zz : Hd Mk := a3))); exact Hd.o a3) | ((fail_if_success (fail_if_success (have zz : Hd Mk := a4))); exact Hd.o a4) | ((fail_if_success (fail_if_success (have zz : Hd Mk := a5))); exact Hd.o a5) | ((fail_if_success (fail_if_success (have zz : Hd Mk := a6))); exact Hd.o a6) | ((fail_if_success (fail_if_success (have zz : Hd Mk := a7))); exact Hd.o a7) | ((fail_if_success (fail_if_success (have zz : Hd Mk := a8))); exact Hd.o a8) | ((fail_if_success (fail_if_success (have zz : Hd Mk := a9))); exact Hd.o a9) | ((fail_if_success (fail_if_success (have zz : Hd Mk := a10))); exact Hd.o a10) | ((fail_if_success (fail_if_success (have zz : Hd Mk := a11))); exact Hd.o a11) | ((fail_if_success (fail_if_success (have zz : Hd Mk := a12))); exact Hd.o a12))
  · (try have zz : Hd True := a1); (try have zz : Hd True := a2); (try have zz : Hd True := a3); (try have zz : Hd True := a4); (try have zz : Hd True := a5); (try have zz : Hd True := a6); (try have zz : Hd True := a7); (try have zz : Hd True := a8); (try have zz : Hd True := a9); (try have zz : Hd True := a10); (try have zz : Hd True := a11); (try have zz : Hd True := a12)
    exact trivial) : Q := h p.1 p.2.1 p.2.2.1 p.2.2.2.1 p.2.2.2.2.1 p.2.2.2.2.2.1 p.2.2.2.2.2.2.1 p.2.2.2.2.2.2.2.1 p.2.2.2.2.2.2.2.2.1 p.2.2.2.2.2.2.2.2.2.1 p.2.2.2.2.2.2.2.2.2.2.1 p.2.2.2.2.2.2.2.2.2.2.2
theorem cl (os : List Orc) {Q P1 P2 P3 P4 P5 P6 P7 P8 P9 P10 P11 P12 : Prop} (p : Hd P1 ∧ Hd P2 ∧ Hd P3 ∧ Hd P4 ∧ Hd P5 ∧ Hd P6 ∧ Hd P7 ∧ Hd P8 ∧ Hd P9 ∧ Hd P10 ∧ Hd P11 ∧ Hd P12)
    (h : Os os → Hd P1 → Hd P2 → Hd P3 → Hd P4 → Hd P5 → Hd P6 → Hd P7 → Hd P8 → Hd P9 → Hd P10 → Hd P11 → Hd P12 → Q := by
  intro oo a1 a2 a3 a4 a5 a6 a7 a8 a9 a10 a11 a12
  refine two ?_ ?_
  · (refine S_regK kp oo rfl rfl (fun zK hK => ?_)); simp -dsimp -implicitDefEqProofs only [go_sem, uU, eq_self, ↓reduceIte]; (repeat' (first | (refine And.intro ?_ ?_) | (refine gs_both (fun hb => ?_) (fun hb => ?_) <;> (have zg := hb; (try simp only [nfb] at zg); simp -dsimp -implicitDefEqProofs only [go_sem, uU, hb, zg, eq_self, ↓reduceIte]; clear hb; (try simp only [nfe] at zg))))); (any_goals ((refine hK _ _ _ _ (fun hx => ?_)); clear hx hK; simp -dsimp -implicitDefEqProofs only [go_sem, uU, eq_self, ↓reduceIte]; (try simp (disch := omega) only [wrap_i64, wrap_u64, wrap_u32, wrap_u8]))); (all_goals (try omega))
    all_goals (refine Hd.o ?_; (repeat revert zg); refine Hd.o ?_; (repeat revert zt); first | ((fail_if_success (fail_if_success (have zz : Hd Mk := a1))); exact Hd.o a1) | ((fail_if_success (fail_if_success (have zz : Hd Mk := a2))); exact Hd.o a2) | ((fail_if_success (fail_if_success (have zz : Hd Mk := a3))); exact Hd.o a3) | ((fail_if_success (fail_if_success (have zz : Hd Mk := a4))); exact Hd.o a4) | ((fail_if_success (fail_if_success (have zz : Hd Mk := a5))); exact Hd.o a5) | ((fail_if_success (fail_if_success (have zz : Hd Mk := a6))); exact Hd.o a6) | ((fail_if_success (fail_if_success (have zz : Hd Mk := a7))); exact Hd.o a7) | ((fail_if_success (fail_if_success (have zz : Hd Mk := a8))); exact Hd.o a8) | ((fail_if_success (fail_if_success (have zz : Hd Mk := a9))); exact Hd.o a9) | ((fail_if_success (fail_if_success (have zz : Hd Mk := a10))); exact Hd.o a10) | ((fail_if_success (fail_if_success (have zz : Hd Mk := a11))); exact Hd.o a11) | ((fail_if_success (fail_if_success (have zz : Hd Mk := a12))); exact Hd.o a12))
  · (try have zz : Hd True := a1); (try have zz : Hd True := a2); (try have zz : Hd True := a3); (try have zz : Hd True := a4); (try have zz : Hd True := a5); (try have zz : Hd True := a6); (try have zz : Hd True := a7); (try have zz : Hd True := a8); (try have zz : Hd True := a9); (try have zz : Hd True := a10); (try have zz : Hd True := a11); (try have zz : Hd True := a12)
    exact trivial) : Q := h ⟨⟩ p.1 p.2.1 p.2.2.1 p.2.2.2.1 p.2.2.2.2.1 p.2.2.2.2.2.1 p.2.2.2.2.2.2.1 p.2.2.2.2.2.2.2.1 p.2.2.2.2.2.2.2.2.1 p.2.2.2.2.2.2.2.2.2.1 p.2.2.2.2.2.2.2.2.2.2.1 p.2.2.2.2.2.2.2.2.2.2.2
theorem dl (os : List Orc) {Q P1 P2 P3 P4 P5 P6 P7 P8 P9 P10 P11 P12 : Prop} (p : Hd P1 ∧ Hd P2 ∧ Hd P3 ∧ Hd P4 ∧ Hd P5 ∧ Hd P6 ∧ Hd P7 ∧ Hd P8 ∧ Hd P9 ∧ Hd P10 ∧ Hd P11 ∧ Hd P12)
    (h : Os os → Hd P1 → Hd P2 → Hd P3 → Hd P4 → Hd P5 → Hd P6 → Hd P7 → Hd P8 → Hd P9 → Hd P10 → Hd P11 → Hd P12 → Q := by
  intro oo a1 a2 a3 a4 a5 a6 a7 a8 a9 a10 a11 a12
  refine two ?_ ?_
  · (refine S_drwK kp oo rfl (by kernel_rfl) rfl (fun zK hK => ?_)); simp -dsimp -implicitDefEqProofs only [go_sem, uU, eq_self, ↓reduceIte]; (repeat' (first | (refine And.intro ?_ ?_) | (refine gs_both (fun hb => ?_) (fun hb => ?_) <;> (have zg := hb; (try simp only [nfb] at zg); simp -dsimp -implicitDefEqProofs only [go_sem, uU, hb, zg, eq_self, ↓reduceIte]; clear hb; (try simp only [nfe] at zg))))); (any_goals ((first | refine hK _ _ _ _ (drawKN kp (by simp only [List.map_cons, List.map_nil, shG, uU, ↓reduceIte, Nat.add_sub_cancel_left, Nat.sub_self]; rfl) (by decide +kernel) (by simp -dsimp -implicitDefEqProofs only [go_sem, uU, eq_self, ↓reduceIte])) (fun hx => ?_) | refine hK _ _ _ _ (drawOk_of (by kernel_rfl) (by simp -dsimp -implicitDefEqProofs only [go_sem, uU, eq_self, ↓reduceIte])) (fun hx => ?_)); clear hx hK; simp -dsimp -implicitDefEqProofs only [go_sem, uU, eq_self, ↓reduceIte]; (try simp (disch := omega) only [wrap_i64, wrap_u64, wrap_u32, wrap_u8]))); (all_goals (try omega))
    all_goals (refine Hd.o ?_; (repeat revert zg); refine Hd.o ?_; (repeat revert zt); first | ((fail_if_success (fail_if_success (have zz : Hd Mk := a1))); exact Hd.o a1) | ((fail_if_success (fail_if_success (have zz : Hd Mk := a2))); exact Hd.o a2) | ((fail_if_success (fail_if_success (have zz : Hd Mk := a3))); exact Hd.o a3) | ((fail_if_success (fail_if_success (have zz : Hd Mk := a4))); exact Hd.o a4) | ((fail_if_success (fail_if_success (have zz : Hd Mk := a5))); exact Hd.o a5) | ((fail_if_success (fail_if_success (have zz : Hd Mk := a6))); exact Hd.o a6) | ((fail_if_success (fail_if_success (have zz : Hd Mk := a7))); exact Hd.o a7) | ((fail_if_success (fail_if_success (have zz : Hd Mk := a8))); exact Hd.o a8) | ((fail_if_success (fail_if_success (have zz : Hd Mk := a9))); exact Hd.o a9) | ((fail_if_success (fail_if_success (have zz : Hd Mk := a10))); exact Hd.o a10) | ((fail_if_success (fail_if_success (have zz : Hd Mk := a11))); exact Hd.o a11) | ((fail_if_success (fail_if_success (have zz : Hd Mk := a12))); exact Hd.o a12))
  · (try have zz : Hd True := a1); (try have zz : Hd True := a2); (try have zz : Hd True := a3); (try have zz : Hd True := a4); (try have zz : Hd True := a5); (try have zz : Hd True := a6); (try have zz : Hd True := a7); (try have zz : Hd True := a8); (try have zz : Hd True := a9); (try have zz : Hd True := a10); (try have zz : Hd True := a11); (try have zz : Hd True := a12)
    exact trivial) : Q := h ⟨⟩ p.1 p.2.1 p.2.2.1 p.2.2.2.1 p.2.2.2.2.1 p.2.2.2.2.2.1 p.2.2.2.2.2.2.1 p.2.2.2.2.2.2.2.1 p.2.2.2.2.2.2.2.2.1 p.2.2.2.2.2.2.2.2.2.1 p.2.2.2.2.2.2.2.2.2.2.1 p.2.2.2.2.2.2.2.2.2.2.2
theorem cR {A B : Prop} (b : Hd (Hd B)) (h : Hd (Hd B) → A := by
  intro b1
  refine C_ret rfl ?_; simp -dsimp -implicitDefEqProofs only [go_sem, uU, eq_self, ↓reduceIte]; refine ⟨_, rfl, ?_⟩
  exact Hd.o (Hd.o b1)) : A := h b
theorem rR {A B : Prop} (b : Hd B) (h : Hd B → A := by
  intro b1
  refine two ?_ ?_
  · (simp -dsimp -implicitDefEqProofs only [go_sem, uU, eq_self, ↓reduceIte]) <;> exact Hd.o (Hd.o b1)
  · (try have zz : Hd True := b1)
    exact trivial) : A := h b
end Go.AM
end
section
namespace Go.AM
open Go.Proofs
set_option maxRecDepth 100000
@[go_sem] theorem yC0 : arr Tryz.prog 30 = none ∧ tagg Tryz.prog 30 = some true ∧ tsz Tryz.prog 30 = some 7 ∧ callable Tryz.prog 12 = true ∧ callable Tryz.prog 13 = true ∧ arr Tryz.prog 36 = none ∧ tagg Tryz.prog 36 = some true ∧ tsz Tryz.prog 36 = some 6 ∧ zcells Tryz.prog 30 = some [AVal.lit (Value.int IntKind.i64 0), AVal.lit (Value.int IntKind.u64 0), AVal.lit (Value.slice none 0 0), AVal.lit (Value.slice none 0 0), AVal.lit (Value.slice none 0 0), AVal.lit (Value.slice none 0 0), AVal.lit (Value.slice none 0 0)] ∧ callable Tryz.prog 17 = true ∧ zcells Tryz.prog 45 = some [AVal.lit (Value.slice none 0 0), AVal.lit (Value.slice none 0 0), AVal.lit (Value.slice none 0 0), AVal.lit (Value.slice none 0 0), AVal.lit (Value.slice none 0 0), AVal.lit (Value.slice none 0 0)] ∧ arr Tryz.prog 45 = none ∧ tsz Tryz.prog 45 = some 6 ∧ tagg Tryz.prog 45 = some true ∧ callable Tryz.prog 19 = true ∧ zcells Tryz.prog 36 = some [AVal.lit (Value.slice none 0 0), AVal.lit (Value.slice none 0 0), AVal.lit (Value.slice none 0 0), AVal.lit (Value.slice none 0 0), AVal.lit (Value.slice none 0 0), AVal.lit (Value.slice none 0 0)] ∧ isStructT Tryz.prog 36 = true ∧ callable Tryz.prog 21 = true ∧ ikind Tryz.prog 3 = some IntKind.i64 ∧ isStrT Tryz.prog 3 = false ∧ fieldOff Tryz.prog 30 1 = some 3 ∧ tagg Tryz.prog 26 = some false ∧ tsz Tryz.prog 26 = some 1 ∧ isSliceT Tryz.prog 26 = true ∧ callable Tryz.prog 23 = true := by and_intros <;> kernel_rfl
@[go_sem] theorem yC1 : callable Tryz.prog 25 = true ∧ callable Tryz.prog 26 = true ∧ fieldOff Tryz.prog 36 0 = some 0 ∧ tagg Tryz.prog 33 = some false ∧ tsz Tryz.prog 33 = some 1 ∧ isSliceT Tryz.prog 33 = true ∧ fieldOff Tryz.prog 36 5 = some 5 ∧ tagg Tryz.prog 34 = some false ∧ tsz Tryz.prog 34 = some 1 ∧ isSliceT Tryz.prog 34 = true ∧ callable Tryz.prog 35 = true ∧ esz Tryz.prog 26 = some 1 ∧ tsz Tryz.prog 3 = some 1 ∧ zcells Tryz.prog 87 = some [AVal.lit (Value.int IntKind.i64 0), AVal.lit (Value.int IntKind.i64 0)] ∧ isStructT Tryz.prog 87 = true ∧ fieldOff Tryz.prog 30 0 = some 0 ∧ fieldOff Tryz.prog 25 0 = some 0 ∧ tagg Tryz.prog 3 = some false ∧ fieldOff Tryz.prog 25 1 = some 1 ∧ tagg Tryz.prog 22 = some false ∧ tsz Tryz.prog 22 = some 1 ∧ fieldOff Tryz.prog 25 2 = some 2 ∧ tagg Tryz.prog 23 = some false ∧ tsz Tryz.prog 23 = some 1 ∧ isSliceT Tryz.prog 23 = true := by and_intros <;> kernel_rfl
@[go_sem] theorem yC2 : zcells Tryz.prog 89 = some [AVal.lit (Value.int IntKind.i64 0), AVal.lit (Value.int IntKind.i64 0), AVal.lit (Value.int IntKind.i64 0), AVal.lit (Value.int IntKind.i64 0), AVal.lit (Value.int IntKind.u64 0), AVal.lit (Value.bool false), AVal.lit (Value.int IntKind.u64 0), AVal.lit (Value.int IntKind.u32 0)] ∧ isStructT Tryz.prog 89 = true ∧ zcells Tryz.prog 93 = some [AVal.lit (Value.int IntKind.i64 0), AVal.lit (Value.int IntKind.i64 0), AVal.lit (Value.int IntKind.u64 0), AVal.lit (Value.int IntKind.u32 0), AVal.lit (Value.int IntKind.u64 0)] ∧ isStructT Tryz.prog 93 = true ∧ callable Tryz.prog 37 = true ∧ callable Tryz.prog 38 = true ∧ fieldOff Tryz.prog 45 0 = some 0 ∧ tagg Tryz.prog 42 = some false ∧ tsz Tryz.prog 42 = some 1 ∧ isSliceT Tryz.prog 42 = true ∧ fieldOff Tryz.prog 45 1 = some 1 ∧ fieldOff Tryz.prog 45 2 = some 2 ∧ fieldOff Tryz.prog 45 3 = some 3 ∧ fieldOff Tryz.prog 45 4 = some 4 ∧ tagg Tryz.prog 27 = some false ∧ tsz Tryz.prog 27 = some 1 ∧ isSliceT Tryz.prog 27 = true ∧ fieldOff Tryz.prog 45 5 = some 5 ∧ tagg Tryz.prog 43 = some false ∧ tsz Tryz.prog 43 = some 1 ∧ isSliceT Tryz.prog 43 = true ∧ fieldOff Tryz.prog 36 4 = some 4 ∧ zcells Tryz.prog 111 = some [AVal.lit (Value.int IntKind.i64 0), AVal.lit (Value.int IntKind.i64 0)] ∧ isStructT Tryz.prog 111 = true ∧ ezero Tryz.prog 23 = some (2, 16, [AVal.lit (Value.int IntKind.i64 0), AVal.lit (Value.int IntKind.i64 0)]) := by and_intros <;> kernel_rfl
@[go_sem] theorem yC3 : zcells Tryz.prog 25 = some [AVal.lit (Value.int IntKind.i64 0), AVal.lit (Value.int IntKind.u64 0), AVal.lit (Value.slice none 0 0)] ∧ fieldOff Tryz.prog 30 2 = some 4 ∧ fieldOff Tryz.prog 30 3 = some 5 ∧ fieldOff Tryz.prog 30 4 = some 6 ∧ tagg Tryz.prog 28 = some false ∧ tsz Tryz.prog 28 = some 1 ∧ esz Tryz.prog 28 = some 1 ∧ tagg Tryz.prog 112 = some false ∧ tsz Tryz.prog 112 = some 1 ∧ esz Tryz.prog 112 = some 3 ∧ fieldOff Tryz.prog 91 2 = some 2 ∧ callable Tryz.prog 49 = true ∧ isStructT Tryz.prog 45 = true ∧ isSliceT Tryz.prog 113 = true ∧ esz Tryz.prog 113 = some 3 ∧ fieldOff Tryz.prog 117 0 = some 0 ∧ tagg Tryz.prog 5 = some false ∧ tsz Tryz.prog 5 = some 1 ∧ zcells Tryz.prog 118 = some [AVal.lit (Value.int IntKind.i64 0), AVal.lit (Value.int IntKind.i64 0)] ∧ isStructT Tryz.prog 118 = true ∧ ezero Tryz.prog 42 = some (2, 16, [AVal.lit (Value.int IntKind.i64 0), AVal.lit (Value.int IntKind.i64 0)]) ∧ isSliceT Tryz.prog 28 = true ∧ esz Tryz.prog 23 = some 2 ∧ fieldOff Tryz.prog 111 1 = some 1 ∧ tagg Tryz.prog 91 = some true := by and_intros <;> kernel_rfl
@[go_sem] theorem yC4 : tsz Tryz.prog 91 = some 3 ∧ eqOffs Tryz.prog 91 = some [(0, 0), (1, 0), (2, 0)] ∧ zcells Tryz.prog 119 = some [AVal.lit (Value.int IntKind.i64 0), AVal.lit (Value.int IntKind.i64 0), AVal.lit (Value.int IntKind.u64 0), AVal.lit (Value.int IntKind.u32 0), AVal.lit (Value.int IntKind.u64 0)] ∧ isStructT Tryz.prog 119 = true ∧ ezero Tryz.prog 43 = some (5, 40, [AVal.lit (Value.int IntKind.i64 0), AVal.lit (Value.int IntKind.i64 0), AVal.lit (Value.int IntKind.u64 0), AVal.lit (Value.int IntKind.u32 0), AVal.lit (Value.int IntKind.u64 0)]) ∧ esz Tryz.prog 27 = some 8 ∧ fieldOff Tryz.prog 89 0 = some 0 ∧ callable Tryz.prog 50 = true ∧ arr Tryz.prog 89 = none ∧ tsz Tryz.prog 89 = some 8 ∧ tagg Tryz.prog 89 = some true ∧ eqOffs Tryz.prog 89 = some [(0, 0), (1, 0), (2, 0), (3, 0), (4, 0), (5, 1), (6, 0), (7, 0)] ∧ fieldOff Tryz.prog 36 1 = some 1 ∧ fieldOff Tryz.prog 36 2 = some 2 ∧ fieldOff Tryz.prog 36 3 = some 3 ∧ zcells Tryz.prog 91 = some [AVal.lit (Value.int IntKind.u64 0), AVal.lit (Value.int IntKind.u32 0), AVal.lit (Value.int IntKind.u64 0)] ∧ esz Tryz.prog 42 = some 2 ∧ tagg Tryz.prog 118 = some true ∧ tsz Tryz.prog 118 = some 2 ∧ arr Tryz.prog 118 = none ∧ esz Tryz.prog 43 = some 5 ∧ tagg Tryz.prog 119 = some true ∧ tsz Tryz.prog 119 = some 5 ∧ arr Tryz.prog 119 = none ∧ callable Tryz.prog 51 = true := by and_intros <;> kernel_rfl
@[go_sem] theorem yC5 : isSliceT Tryz.prog 122 = true ∧ esz Tryz.prog 122 = some 3 ∧ tagg Tryz.prog 125 = some true ∧ tsz Tryz.prog 125 = some 3 ∧ zcells Tryz.prog 125 = some [AVal.lit (Value.int IntKind.u8 0), AVal.lit (Value.int IntKind.i64 0), AVal.lit (Value.int IntKind.i64 0)] ∧ arr Tryz.prog 125 = none ∧ fieldOff Tryz.prog 125 0 = some 0 ∧ callable Tryz.prog 52 = true ∧ callable Tryz.prog 54 = true ∧ callable Tryz.prog 53 = true ∧ callable Tryz.prog 55 = true ∧ callable Tryz.prog 57 = true ∧ callable Tryz.prog 56 = true ∧ callable Tryz.prog 58 = true ∧ zcells Tryz.prog 3 = some [AVal.lit (Value.int IntKind.i64 0)] ∧ arr Tryz.prog 3 = none ∧ callable Tryz.prog 60 = true ∧ callable Tryz.prog 59 = true ∧ esz Tryz.prog 33 = some 2 ∧ tagg Tryz.prog 87 = some true ∧ tsz Tryz.prog 87 = some 2 ∧ esz Tryz.prog 34 = some 5 ∧ tagg Tryz.prog 93 = some true ∧ tsz Tryz.prog 93 = some 5 ∧ callable Tryz.prog 71 = true := by and_intros <;> kernel_rfl
@[go_sem] theorem yC6 : callable Tryz.prog 72 = true ∧ callable Tryz.prog 73 = true ∧ callable Tryz.prog 74 = true ∧ fieldOff Tryz.prog 89 5 = some 5 ∧ tagg Tryz.prog 4 = some false ∧ tsz Tryz.prog 4 = some 1 ∧ fieldOff Tryz.prog 89 3 = some 3 ∧ tagg Tryz.prog 25 = some true ∧ tsz Tryz.prog 25 = some 3 ∧ callable Tryz.prog 79 = true ∧ callable Tryz.prog 80 = true ∧ callable Tryz.prog 81 = true ∧ callable Tryz.prog 82 = true ∧ arr Tryz.prog 25 = none ∧ callable Tryz.prog 86 = true ∧ ezero Tryz.prog 112 = some (3, 24, [AVal.lit (Value.int IntKind.u64 0), AVal.lit (Value.int IntKind.u32 0), AVal.lit (Value.int IntKind.u64 0)]) ∧ tagg Tryz.prog 50 = some false ∧ tsz Tryz.prog 50 = some 1 ∧ ikind Tryz.prog 50 = some IntKind.u32 ∧ callable Tryz.prog 98 = true ∧ callable Tryz.prog 99 = true ∧ isSliceT Tryz.prog 112 = true ∧ fieldOff Tryz.prog 89 1 = some 1 ∧ fieldOff Tryz.prog 89 2 = some 2 ∧ fieldOff Tryz.prog 89 4 = some 4 := by and_intros <;> kernel_rfl
@[go_sem] theorem yC7 : fieldOff Tryz.prog 89 6 = some 6 ∧ fieldOff Tryz.prog 89 7 = some 7 ∧ fieldOff Tryz.prog 91 0 = some 0 ∧ fieldOff Tryz.prog 91 1 = some 1 ∧ fieldOff Tryz.prog 111 0 = some 0 ∧ tsz Tryz.prog 111 = some 2 ∧ callable Tryz.prog 112 = true ∧ zcells Tryz.prog 117 = some [AVal.lit (Value.int IntKind.u8 0), AVal.lit (Value.int IntKind.i64 0), AVal.lit (Value.int IntKind.i64 0)] ∧ isStructT Tryz.prog 117 = true ∧ callable Tryz.prog 113 = true ∧ callable Tryz.prog 115 = true ∧ callable Tryz.prog 114 = true ∧ isStructT Tryz.prog 125 = true ∧ zcells Tryz.prog 183 = some [AVal.lit (Value.int IntKind.i64 0), AVal.lit (Value.int IntKind.u64 0), AVal.lit (Value.slice none 0 0), AVal.lit (Value.slice none 0 0), AVal.lit (Value.slice none 0 0), AVal.lit (Value.slice none 0 0), AVal.lit (Value.slice none 0 0), AVal.lit (Value.slice none 0 0)] ∧ isStructT Tryz.prog 183 = true ∧ arr Tryz.prog 183 = none ∧ callable Tryz.prog 116 = true ∧ arr Tryz.prog 91 = none ∧ callable Tryz.prog 117 = true ∧ tagg Tryz.prog 111 = some true ∧ arr Tryz.prog 111 = none ∧ eqOffs Tryz.prog 111 = some [(0, 0), (1, 0)] ∧ callable Tryz.prog 125 = true ∧ callable Tryz.prog 66 = true ∧ eqOffs Tryz.prog 87 = some [(0, 0), (1, 0)] := by and_intros <;> kernel_rfl
@[go_sem] theorem yC8 : callable Tryz.prog 133 = true ∧ callable Tryz.prog 141 = true ∧ callable Tryz.prog 142 = true ∧ callable Tryz.prog 143 = true ∧ isStrT Tryz.prog 50 = false ∧ callable Tryz.prog 156 = true ∧ zcells Tryz.prog 201 = some [AVal.lit (Value.int IntKind.u64 0), AVal.lit (Value.int IntKind.u32 0), AVal.lit (Value.int IntKind.u32 0)] ∧ arr Tryz.prog 201 = none ∧ fieldOff Tryz.prog 201 0 = some 0 ∧ fieldOff Tryz.prog 201 1 = some 1 ∧ callable Tryz.prog 183 = true ∧ isSliceT Tryz.prog 248 = true ∧ callable Tryz.prog 186 = true ∧ callable Tryz.prog 187 = true ∧ callable Tryz.prog 188 = true ∧ callable Tryz.prog 189 = true ∧ callable Tryz.prog 190 = true ∧ ezero Tryz.prog 255 = some (1, 8, [AVal.lit Value.nilFunc]) ∧ callable Tryz.prog 191 = true ∧ callable Tryz.prog 192 = true ∧ callable Tryz.prog 193 = true ∧ callable Tryz.prog 194 = true ∧ zcells Tryz.prog 256 = some [AVal.lit (Value.slice none 0 0), AVal.lit (Value.slice none 0 0), AVal.lit (Value.slice none 0 0)] ∧ isStructT Tryz.prog 256 = false ∧ arrE Tryz.prog 256 = some (3, 1, false) := by and_intros <;> kernel_rfl
@[go_sem] theorem yC9 : arr Tryz.prog 256 = some (3, 1) ∧ tsz Tryz.prog 256 = some 3 ∧ tagg Tryz.prog 256 = some true ∧ isSliceT Tryz.prog 255 = true ∧ esz Tryz.prog 255 = some 1 ∧ tagg Tryz.prog 254 = some false ∧ tsz Tryz.prog 254 = some 1 ∧ fieldOff Tryz.prog 183 1 = some 7 ∧ tagg Tryz.prog 122 = some false ∧ tsz Tryz.prog 122 = some 1 ∧ callable Tryz.prog 195 = true ∧ fieldOff Tryz.prog 201 2 = some 2 ∧ callable Tryz.prog 211 = true ∧ isStructT Tryz.prog 201 = true ∧ callable Tryz.prog 214 = true ∧ callable Tryz.prog 226 = true ∧ callable Tryz.prog 235 = true ∧ zcells Tryz.prog 251 = some [AVal.lit (Value.int IntKind.u64 0), AVal.lit (Value.int IntKind.i64 0), AVal.lit (Value.int IntKind.i64 0)] ∧ isStructT Tryz.prog 251 = true ∧ esz Tryz.prog 248 = some 3 ∧ callable Tryz.prog 239 = true ∧ callable Tryz.prog 240 = true ∧ callable Tryz.prog 241 = true ∧ callable Tryz.prog 242 = true ∧ callable Tryz.prog 243 = true := by and_intros <;> kernel_rfl
@[go_sem] theorem yC10 : fieldOff Tryz.prog 251 0 = some 0 ∧ fieldOff Tryz.prog 183 0 = some 0 ∧ callable Tryz.prog 244 = true ∧ callable Tryz.prog 245 = true ∧ ezero Tryz.prog 296 = some (1, 8, [AVal.lit (Value.pointer none)]) ∧ zcells Tryz.prog 296 = some [AVal.lit (Value.slice none 0 0)] ∧ arr Tryz.prog 296 = none ∧ tsz Tryz.prog 296 = some 1 ∧ callable Tryz.prog 246 = true ∧ tagg Tryz.prog 296 = some false ∧ isSliceT Tryz.prog 296 = true ∧ esz Tryz.prog 296 = some 1 ∧ tagg Tryz.prog 297 = some false ∧ tsz Tryz.prog 297 = some 1 ∧ refT Tryz.prog 297 = some 0 ∧ callable Tryz.prog 271 = true ∧ callable Tryz.prog 272 = true ∧ arr Tryz.prog 289 = none ∧ fieldOff Tryz.prog 289 2 = some 2 ∧ fieldOff Tryz.prog 289 1 = some 1 ∧ fieldOff Tryz.prog 289 0 = some 0 ∧ zcells Tryz.prog 289 = some [AVal.lit (Value.int IntKind.u64 0), AVal.lit (Value.int IntKind.u32 0), AVal.lit (Value.int IntKind.u32 0)] ∧ isStructT Tryz.prog 289 = true ∧ callable Tryz.prog 275 = true ∧ arr Tryz.prog 22 = none := by and_intros <;> kernel_rfl
@[go_sem] theorem yC11 : Tryz.f17.results.toList = [.cell 4 45, .tmp 5] ∧ Tryz.f19.results.toList = [.cell 2 36] ∧ Tryz.f21.results.toList = [.cell 4 36, .tmp 5] ∧ Tryz.f35.results.toList = [.cell 2 30] ∧ Tryz.f50.results.toList = [.cell 4 89, .tmp 5] ∧ Tryz.f98.results.toList = [.cell 2 25] := by and_intros <;> kernel_rfl
@[go_sem] theorem y1 : placesOf Tryz.prog 36 = some { toList := [(0, 1), (1, 1), (2, 1), (3, 1), (4, 1), (5, 1)] } := by kernel_rfl
@[go_sem] theorem y2 : placesOf Tryz.prog 87 = some { toList := [(0, 1), (1, 1)] } := by kernel_rfl
@[go_sem] theorem y3 : ezero Tryz.prog 33 = some (2, 16, [AVal.lit (Value.int IntKind.i64 0), AVal.lit (Value.int IntKind.i64 0)]) := by kernel_rfl
@[go_sem] theorem ap_33 {H0 : Heap} {k id : Nat} {l : List (List AVal)} {y : Option AVal} (hin : accIn H0 id 2 l) (hid : id < k) : aAppend Tryz.prog (AM.look H0) k 33 (some (accV id l)) y = appR 2 16 k id l (y.bind (aSrc (AM.look H0))) := app_acc y3 hin hid
@[go_sem] theorem y4 : ezero Tryz.prog 26 = some (1, 8, [AVal.lit (Value.int IntKind.i64 0)]) := by kernel_rfl
@[go_sem] theorem ap_26 {H0 : Heap} {k id : Nat} {l : List (List AVal)} {y : Option AVal} (hin : accIn H0 id 1 l) (hid : id < k) : aAppend Tryz.prog (AM.look H0) k 26 (some (accV id l)) y = appR 1 8 k id l (y.bind (aSrc (AM.look H0))) := app_acc y4 hin hid
@[go_sem] theorem y5 : placesOf Tryz.prog 89 = some { toList := [(0, 1), (1, 1), (2, 1), (3, 1), (4, 1), (5, 1), (6, 1), (7, 1)] } := by kernel_rfl
@[go_sem] theorem y6 : ezero Tryz.prog 27 = some (8, 64, [AVal.lit (Value.int IntKind.i64 0), AVal.lit (Value.int IntKind.i64 0), AVal.lit (Value.int IntKind.i64 0), AVal.lit (Value.int IntKind.i64 0), AVal.lit (Value.int IntKind.u64 0), AVal.lit (Value.bool false), AVal.lit (Value.int IntKind.u64 0), AVal.lit (Value.int IntKind.u32 0)]) := by kernel_rfl
@[go_sem] theorem ap_27 {H0 : Heap} {k id : Nat} {l : List (List AVal)} {y : Option AVal} (hin : accIn H0 id 8 l) (hid : id < k) : aAppend Tryz.prog (AM.look H0) k 27 (some (accV id l)) y = appR 8 64 k id l (y.bind (aSrc (AM.look H0))) := app_acc y6 hin hid
@[go_sem] theorem y7 : placesOf Tryz.prog 93 = some { toList := [(0, 1), (1, 1), (2, 3)] } := by kernel_rfl
@[go_sem] theorem y8 : ezero Tryz.prog 34 = some (5, 40, [AVal.lit (Value.int IntKind.i64 0), AVal.lit (Value.int IntKind.i64 0), AVal.lit (Value.int IntKind.u64 0), AVal.lit (Value.int IntKind.u32 0), AVal.lit (Value.int IntKind.u64 0)]) := by kernel_rfl
@[go_sem] theorem ap_34 {H0 : Heap} {k id : Nat} {l : List (List AVal)} {y : Option AVal} (hin : accIn H0 id 5 l) (hid : id < k) : aAppend Tryz.prog (AM.look H0) k 34 (some (accV id l)) y = appR 5 40 k id l (y.bind (aSrc (AM.look H0))) := app_acc y8 hin hid
@[go_sem] theorem y9 : placesOf Tryz.prog 111 = some { toList := [(0, 1), (1, 1)] } := by kernel_rfl
@[go_sem] theorem y10 : placesOf Tryz.prog 45 = some { toList := [(0, 1), (1, 1), (2, 1), (3, 1), (4, 1), (5, 1)] } := by kernel_rfl
@[go_sem] theorem y11 : placesOf Tryz.prog 118 = some { toList := [(0, 1), (1, 1)] } := by kernel_rfl
@[go_sem] theorem y12 : placesOf Tryz.prog 119 = some { toList := [(0, 1), (1, 1), (2, 3)] } := by kernel_rfl
@[go_sem] theorem y13 : ezero Tryz.prog 28 = some (1, 24, [AVal.lit (Value.slice none 0 0)]) := by kernel_rfl
@[go_sem] theorem ap_28 {H0 : Heap} {k id : Nat} {l : List (List AVal)} {y : Option AVal} (hin : accIn H0 id 1 l) (hid : id < k) : aAppend Tryz.prog (AM.look H0) k 28 (some (accV id l)) y = appR 1 24 k id l (y.bind (aSrc (AM.look H0))) := app_acc y13 hin hid
@[go_sem] theorem y14 : placesOf Tryz.prog 117 = some { toList := [(0, 1), (1, 1), (2, 1)] } := by kernel_rfl
@[go_sem] theorem y15 : ezero Tryz.prog 113 = some (3, 24, [AVal.lit (Value.int IntKind.u8 0), AVal.lit (Value.int IntKind.i64 0), AVal.lit (Value.int IntKind.i64 0)]) := by kernel_rfl
@[go_sem] theorem ap_113 {H0 : Heap} {k id : Nat} {l : List (List AVal)} {y : Option AVal} (hin : accIn H0 id 3 l) (hid : id < k) : aAppend Tryz.prog (AM.look H0) k 113 (some (accV id l)) y = appR 3 24 k id l (y.bind (aSrc (AM.look H0))) := app_acc y15 hin hid
@[go_sem] theorem y16 : placesOf Tryz.prog 125 = some { toList := [(0, 1), (1, 1), (2, 1)] } := by kernel_rfl
@[go_sem] theorem y17 : ezero Tryz.prog 122 = some (3, 24, [AVal.lit (Value.int IntKind.u8 0), AVal.lit (Value.int IntKind.i64 0), AVal.lit (Value.int IntKind.i64 0)]) := by kernel_rfl
@[go_sem] theorem ap_122 {H0 : Heap} {k id : Nat} {l : List (List AVal)} {y : Option AVal} (hin : accIn H0 id 3 l) (hid : id < k) : aAppend Tryz.prog (AM.look H0) k 122 (some (accV id l)) y = appR 3 24 k id l (y.bind (aSrc (AM.look H0))) := app_acc y17 hin hid
@[go_sem] theorem ln_122 {H0 : Heap} {k id : Nat} {l : List (List AVal)} (hin : accIn H0 id 3 l) : lenO Tryz.prog (AM.look H0) k 122 (some (accV id l)) = some ⟨.lit (.int .i64 (l.length : Int)), k, [], accRds id l⟩ := len_acc (by kernel_rfl) hin
@[go_sem] theorem y18 : placesOf Tryz.prog 183 = some { toList := [(0, 7), (7, 1)] } := by kernel_rfl
@[go_sem] theorem y19 : placesOf Tryz.prog 201 = some { toList := [(0, 1), (1, 1), (2, 1)] } := by kernel_rfl
@[go_sem] theorem y20 : placesOf Tryz.prog 251 = some { toList := [(0, 1), (1, 1), (2, 1)] } := by kernel_rfl
@[go_sem] theorem y21 : ezero Tryz.prog 248 = some (3, 24, [AVal.lit (Value.int IntKind.u64 0), AVal.lit (Value.int IntKind.i64 0), AVal.lit (Value.int IntKind.i64 0)]) := by kernel_rfl
@[go_sem] theorem ap_248 {H0 : Heap} {k id : Nat} {l : List (List AVal)} {y : Option AVal} (hin : accIn H0 id 3 l) (hid : id < k) : aAppend Tryz.prog (AM.look H0) k 248 (some (accV id l)) y = appR 3 24 k id l (y.bind (aSrc (AM.look H0))) := app_acc y21 hin hid
@[go_sem] theorem y22 : placesOf Tryz.prog 289 = some { toList := [(0, 1), (1, 1), (2, 1)] } := by kernel_rfl
end Go.AM
end
section
namespace Go.Proofs.T
open Go Go.AM Go.Proofs
set_option maxRecDepth 20000
variable {Γ : List (Nat × List AVal)}
theorem weight_ref (w : Int) : Pure Tryz.prog Γ 239 [.lit (.int .i64 w)] (.lit (.bool (decide (1 ≤ w ∧ w ≤ 65536)))) := by
  refine Pure_at Tryz.func239 rfl 9 rfl (Nat.le_of_ble_eq_true rfl) rfl fun k => ?_
  refine C_seq rfl ?_
  refine S_reg rfl [0,2] [] rfl (fun K hK => ?_); simp -dsimp -implicitDefEqProofs only [go_sem, eq_self, ↓reduceIte]; (refine hK _ _ _ _ (fun hx => ?_)); clear hx hK; simp -dsimp -implicitDefEqProofs only [go_sem, eq_self, ↓reduceIte]
  refine C_seq rfl ?_
  refine S_reg rfl [0,2] [] rfl (fun K hK => ?_); simp -dsimp -implicitDefEqProofs only [go_sem, eq_self, ↓reduceIte]; (repeat' (refine gs_both (fun hg => ?_) (fun hg => ?_) <;> simp only [decide_eq_true_eq, decide_eq_false_iff_not, Bool.not_eq_true', Bool.not_eq_false'] at hg <;> simp -dsimp -implicitDefEqProofs only [go_sem, hg, eq_self, ↓reduceIte])); all_goals ((refine hK _ _ _ _ (fun hx => ?_)); clear hx hK; simp -dsimp -implicitDefEqProofs only [go_sem, eq_self, ↓reduceIte])
  all_goals (refine C_ret rfl ⟨_, rfl, VLe.of_eq ?_⟩)
  all_goals ((simp only [AVal.lit.injEq, Value.bool.injEq]; rw [Bool.eq_iff_iff]; simp only [beq_iff_eq, bne_iff_ne, ne_eq, decide_eq_true_eq, decide_eq_false_iff_not, Bool.and_eq_true, Bool.or_eq_true, Bool.not_eq_true', beq_eq_false_iff_ne, Bool.false_eq_true, Bool.true_eq_false, true_iff, false_iff, iff_true, iff_false]; omega))
theorem weighs (w : Int) : Pure Tryz.prog Γ 211 [.lit (.int .i64 w)] (.lit (.bool (decide (1 ≤ w ∧ w ≤ 65536)))) := by
  refine Pure_at Tryz.func211 rfl 9 rfl (Nat.le_of_ble_eq_true rfl) rfl fun k => ?_
  refine C_seq rfl ?_
  refine S_reg rfl [0,2] [] rfl (fun K hK => ?_); simp -dsimp -implicitDefEqProofs only [go_sem, eq_self, ↓reduceIte]; (refine hK _ _ _ _ (fun hx => ?_)); clear hx hK; simp -dsimp -implicitDefEqProofs only [go_sem, eq_self, ↓reduceIte]
  refine C_seq rfl ?_
  refine S_reg rfl [0,2] [] rfl (fun K hK => ?_); simp -dsimp -implicitDefEqProofs only [go_sem, eq_self, ↓reduceIte]; (repeat' (refine gs_both (fun hg => ?_) (fun hg => ?_) <;> simp only [decide_eq_true_eq, decide_eq_false_iff_not, Bool.not_eq_true', Bool.not_eq_false'] at hg <;> simp -dsimp -implicitDefEqProofs only [go_sem, hg, eq_self, ↓reduceIte])); all_goals ((refine hK _ _ _ _ (fun hx => ?_)); clear hx hK; simp -dsimp -implicitDefEqProofs only [go_sem, eq_self, ↓reduceIte])
  all_goals (refine C_ret rfl ⟨_, rfl, VLe.of_eq ?_⟩)
  all_goals ((simp only [AVal.lit.injEq, Value.bool.injEq]; rw [Bool.eq_iff_iff]; simp only [beq_iff_eq, bne_iff_ne, ne_eq, decide_eq_true_eq, decide_eq_false_iff_not, Bool.and_eq_true, Bool.or_eq_true, Bool.not_eq_true', beq_eq_false_iff_ne, Bool.false_eq_true, Bool.true_eq_false, true_iff, false_iff, iff_true, iff_false]; omega))
def ent (v r w : Int) : Bool := decide (1 ≤ w ∧ w ≤ 65536 ∧ r < w ∧ (v < 18446744073709551615 ∨ r = 0))
theorem chargeRight (v r w : Int) (hw : 0 ≤ w) (hw2 : w < 4294967296) : Pure Tryz.prog Γ 133 [.agg [.lit (.int .u64 v), .lit (.int .u32 r), .lit (.int .u32 w)]] (.lit (.bool (ent v r w))) := by
  refine Pure_at Tryz.func133 rfl 24 rfl (Nat.le_of_ble_eq_true rfl) rfl fun k => ?_
  refine C_seq rfl ?_
  refine S_reg rfl [0,1,2] [] rfl (fun K hK => ?_); simp -dsimp -implicitDefEqProofs only [go_sem, eq_self, ↓reduceIte]; (refine hK _ _ _ _ (fun hx => ?_)); clear hx hK; simp -dsimp -implicitDefEqProofs only [go_sem, eq_self, ↓reduceIte]
  refine C_seq rfl ?_
  refine S_reg rfl [0,1,2] [.ret (.lit (.bool (decide (1 ≤ w ∧ w ≤ 65536))))] rfl (fun K hK => ?_)
  refine rR ?_ <;> first | exact hdT | apply zN
  rw [wrap_i64 (by omega) (by omega)]
  refine ⟨weighs w, ?_⟩
  (repeat' (refine gs_both (fun hg => ?_) (fun hg => ?_) <;> simp only [decide_eq_true_eq, decide_eq_false_iff_not, Bool.not_eq_true', Bool.not_eq_false'] at hg <;> simp -dsimp -implicitDefEqProofs only [go_sem, hg, eq_self, ↓reduceIte]))
  all_goals ((refine hK _ _ _ _ (fun hx => ?_)); clear hx hK; simp -dsimp -implicitDefEqProofs only [go_sem, eq_self, ↓reduceIte])
  all_goals (refine C_ret rfl ⟨_, rfl, VLe.of_eq ?_⟩)
  all_goals (unfold ent; (simp only [AVal.lit.injEq, Value.bool.injEq]; rw [Bool.eq_iff_iff]; simp only [beq_iff_eq, bne_iff_ne, ne_eq, decide_eq_true_eq, decide_eq_false_iff_not, Bool.and_eq_true, Bool.or_eq_true, Bool.not_eq_true', beq_eq_false_iff_ne, Bool.false_eq_true, Bool.true_eq_false, true_iff, false_iff, iff_true, iff_false]; omega))
theorem entity (v r w : Int) : Pure Tryz.prog Γ 245 [.lit (.int .u64 v), .lit (.int .u32 r), .lit (.int .i64 w)] (.lit (.bool (ent v r w))) := by
  refine Pure_at Tryz.func245 rfl 21 rfl (Nat.le_of_ble_eq_true rfl) rfl fun k => ?_
  refine C_seq rfl ?_
  refine S_reg rfl [0,1,2,6] [] rfl (fun K hK => ?_); simp -dsimp -implicitDefEqProofs only [go_sem, eq_self, ↓reduceIte]; (refine hK _ _ _ _ (fun hx => ?_)); clear hx hK; simp -dsimp -implicitDefEqProofs only [go_sem, eq_self, ↓reduceIte]
  refine C_seq rfl ?_
  refine S_reg rfl [6] [.ret (.lit (.bool (ent v r w)))] rfl (fun K hK => ?_); simp -dsimp -implicitDefEqProofs only [go_sem, eq_self, ↓reduceIte]; (repeat' (first | (refine And.intro ?_ ?_) | (refine gs_both (fun hb => ?_) (fun hb => ?_) <;> (have hg := hb; (try simp only [nfb] at hg); simp -dsimp -implicitDefEqProofs only [go_sem, hb, hg, eq_self, ↓reduceIte]; clear hb; (try simp only [nfe] at hg))))); (any_goals ((refine hK _ _ _ _ (fun hx => ?_)); clear hx hK; simp -dsimp -implicitDefEqProofs only [go_sem, eq_self, ↓reduceIte]; (try simp (disch := omega) only [wrap_i64, wrap_u64, wrap_u32, wrap_u8]))); (all_goals (try omega))
  · rw [wrap_u32 (by omega) (by omega)]; exact chargeRight v r w (by omega) (by omega)
  all_goals (refine C_ret rfl ⟨_, rfl, VLe.of_eq ?_⟩)
  · rfl
  all_goals (unfold ent; (simp only [AVal.lit.injEq, Value.bool.injEq]; rw [Bool.eq_iff_iff]; simp only [beq_iff_eq, bne_iff_ne, ne_eq, decide_eq_true_eq, decide_eq_false_iff_not, Bool.and_eq_true, Bool.or_eq_true, Bool.not_eq_true', beq_eq_false_iff_ne, Bool.false_eq_true, Bool.true_eq_false, true_iff, false_iff, iff_true, iff_false]; omega))
theorem refRight (v r w : Int) (hv : v ≤ 18446744073709551615) (hr : 0 ≤ r) : Pure Tryz.prog Γ 235 [.agg [.lit (.int .u64 v), .lit (.int .u32 r), .lit (.int .u32 w)]] (.lit (.bool (ent v r w))) := by
  refine Pure_at Tryz.func235 rfl 29 rfl (Nat.le_of_ble_eq_true rfl) rfl fun k => ?_
  refine C_seq rfl ?_
  refine S_reg rfl [0,1,2] [] rfl (fun K hK => ?_); simp -dsimp -implicitDefEqProofs only [go_sem, eq_self, ↓reduceIte]; (refine hK _ _ _ _ (fun hx => ?_)); clear hx hK; simp -dsimp -implicitDefEqProofs only [go_sem, eq_self, ↓reduceIte]
  refine C_seq rfl ?_
  refine S_reg rfl [2] [] rfl (fun K hK => ?_); simp -dsimp -implicitDefEqProofs only [go_sem, eq_self, ↓reduceIte]; (repeat' (first | (refine And.intro ?_ ?_) | (refine gs_both (fun hb => ?_) (fun hb => ?_) <;> (have hg := hb; (try simp only [nfb] at hg); simp -dsimp -implicitDefEqProofs only [go_sem, hb, hg, eq_self, ↓reduceIte]; clear hb; (try simp only [nfe] at hg))))); (any_goals ((refine hK _ _ _ _ (fun hx => ?_)); clear hx hK; simp -dsimp -implicitDefEqProofs only [go_sem, eq_self, ↓reduceIte]; (try simp (disch := omega) only [wrap_i64, wrap_u64, wrap_u32, wrap_u8]))); (all_goals (try omega))
  all_goals (refine C_ret rfl ⟨_, rfl, VLe.of_eq ?_⟩)
  all_goals (unfold ent; (simp only [AVal.lit.injEq, Value.bool.injEq]; rw [Bool.eq_iff_iff]; simp only [beq_iff_eq, bne_iff_ne, ne_eq, decide_eq_true_eq, decide_eq_false_iff_not, Bool.and_eq_true, Bool.or_eq_true, Bool.not_eq_true', beq_eq_false_iff_ne, Bool.false_eq_true, Bool.true_eq_false, true_iff, false_iff, iff_true, iff_false]; omega))
theorem entity_ref (v r w : Int) (hv : v ≤ 18446744073709551615) (hr : 0 ≤ r) : Pure Tryz.prog Γ 242 [.lit (.int .u64 v), .lit (.int .u32 r), .lit (.int .i64 w)] (.lit (.bool (ent v r w))) := by
  refine Pure_at Tryz.func242 rfl 17 rfl (Nat.le_of_ble_eq_true rfl) rfl fun k => ?_
  refine C_seq rfl ?_
  refine S_reg rfl [0,1,2,6] [] rfl (fun K hK => ?_); simp -dsimp -implicitDefEqProofs only [go_sem, eq_self, ↓reduceIte]; (refine hK _ _ _ _ (fun hx => ?_)); clear hx hK; simp -dsimp -implicitDefEqProofs only [go_sem, eq_self, ↓reduceIte]
  refine C_seq rfl ?_
  refine S_reg rfl [6] [.ret (.lit (.bool (decide (1 ≤ w ∧ w ≤ 65536)))), .ret (.lit (.bool (ent v r w)))] rfl (fun K hK => ?_); simp -dsimp -implicitDefEqProofs only [go_sem, eq_self, ↓reduceIte]; (repeat' (first | (refine And.intro ?_ ?_) | (refine gs_both (fun hb => ?_) (fun hb => ?_) <;> (have hg := hb; (try simp only [nfb] at hg); simp -dsimp -implicitDefEqProofs only [go_sem, hb, hg, eq_self, ↓reduceIte]; clear hb; (try simp only [nfe] at hg))))); (any_goals ((refine hK _ _ _ _ (fun hx => ?_)); clear hx hK; simp -dsimp -implicitDefEqProofs only [go_sem, eq_self, ↓reduceIte]; (try simp (disch := omega) only [wrap_i64, wrap_u64, wrap_u32, wrap_u8]))); (all_goals (try omega))
  · exact weight_ref w
  · rw [wrap_u32 (by omega) (by omega)]; exact refRight v r w hv hr
  all_goals (refine C_ret rfl ⟨_, rfl, VLe.of_eq ?_⟩)
  · rfl
  all_goals (unfold ent; (simp only [AVal.lit.injEq, Value.bool.injEq]; rw [Bool.eq_iff_iff]; simp only [beq_iff_eq, bne_iff_ne, ne_eq, decide_eq_true_eq, decide_eq_false_iff_not, Bool.and_eq_true, Bool.or_eq_true, Bool.not_eq_true', beq_eq_false_iff_ne, Bool.false_eq_true, Bool.true_eq_false, true_iff, false_iff, iff_true, iff_false]; omega))
end Go.Proofs.T
end
section
namespace Go.Proofs.T
open Go Go.AM Go.Proofs
variable {Γ : List (Nat × List AVal)}
structure Tk where
  id : Int
  group : Int
  weight : Int
  cpu : Int
  mask : Int
  ready : Bool
  v : Int
  r : Int
structure Sp where
  v : Int
  r : Int
  floor : Int
structure St where
  cpus : Int
  credit : Int
  ng : Nat
  par : Nat → Int
  wt : Nat → Int
  nk : Nat
  clk : Nat → Int
  nu : Nat
  cur : Nat → Int
  nt : Nat
  tsk : Nat → Tk
  ns : Nat
  nsp : Nat → Nat
  sp : Nat → Nat → Sp
structure Flt where
  r : Int
  a : Int
  b : Int
deriving DecidableEq
abbrev i64 (n : Int) : AVal := .lit (.int .i64 n)
abbrev u64 (n : Int) : AVal := .lit (.int .u64 n)
abbrev u32 (n : Int) : AVal := .lit (.int .u32 n)
def Flt.row (f : Flt) : List AVal := [.lit (.int .u8 f.r), .lit (.int .i64 f.a), .lit (.int .i64 f.b)]
theorem wkU {kb k : Nat} {fr : Fr} {H : Heap} {k1 : Nat} {fr1 : Fr} {H1 : Heap} (hb : kb ≤ k1 := by omega) (hf : leF fr fr1 := by simp -dsimp -implicitDefEqProofs only [go_sem, uU, List.map_append, Flt.row, eq_self, ↓reduceIte]) (hH : leH H H1 := by simp -dsimp -implicitDefEqProofs only [go_sem, uU, List.map_append, Flt.row, eq_self, ↓reduceIte]) (h : bdF (ltB k1) fr1 = true := by simp -dsimp -implicitDefEqProofs only [go_sem, uU, List.map_append, Flt.row, eq_self, ↓reduceIte]) (h' : bdH (ltB k1) H1 = true := by simp -dsimp -implicitDefEqProofs only [go_sem, uU, List.map_append, Flt.row, eq_self, ↓reduceIte]) : Mv kb k fr H k1 fr1 H1 := Mv.wk (wk_low hb hf hH h h')
theorem wkF {kb k : Nat} {fr : Fr} {H : Heap} {k1 : Nat} {fr1 : Fr} {H1 : Heap} (hb : kb ≤ k1 := by omega) (hf : leF fr fr1 := by simp -dsimp -implicitDefEqProofs only [go_sem, List.map_append, Flt.row, eq_self, ↓reduceIte]) (hH : leH H H1 := by simp -dsimp -implicitDefEqProofs only [go_sem, List.map_append, Flt.row, eq_self, ↓reduceIte]) (h : bdF (ltB k1) fr1 = true := by simp -dsimp -implicitDefEqProofs only [go_sem, List.map_append, Flt.row, eq_self, ↓reduceIte]) (h' : bdH (ltB k1) H1 = true := by simp -dsimp -implicitDefEqProofs only [go_sem, List.map_append, Flt.row, eq_self, ↓reduceIte]) : Mv kb k fr H k1 fr1 H1 :=
  Mv.wk (wk_low hb hf hH h h')
def gf (s : St) (i : Nat) : List AVal := [.lit (.int .i64 (s.par i)), .lit (.int .i64 (s.wt i))]
def kf (s : St) (i : Nat) : List AVal := [.lit (.int .i64 (s.clk i))]
def uf (s : St) (i : Nat) : List AVal := [.lit (.int .i64 (s.cur i))]
def tf (s : St) (i : Nat) : List AVal := [.lit (.int .i64 (s.tsk i).id), .lit (.int .i64 (s.tsk i).group), .lit (.int .i64 (s.tsk i).weight), .lit (.int .i64 (s.tsk i).cpu), .lit (.int .u64 (s.tsk i).mask), .lit (.bool (s.tsk i).ready), .lit (.int .u64 (s.tsk i).v), .lit (.int .u32 (s.tsk i).r)]
def sf (s : St) (g c : Nat) : List AVal := [.lit (.int .u64 (s.sp g c).v), .lit (.int .u32 (s.sp g c).r), .lit (.int .u64 (s.sp g c).floor)]
def ssf (s : St) (g : Nat) : List AVal := [.rd 3 (s.nsp g) (sf s g)]
def St.cells (s : St) : List AVal := [.lit (.int .i64 s.cpus), .lit (.int .u64 s.credit), .rd 2 s.ng (gf s), .rd 1 s.nk (kf s), .rd 1 s.nu (uf s), .rd 8 s.nt (tf s), .rd 1 s.ns (ssf s)]
attribute [go_sem] gf kf uf tf sf ssf St.cells
def flats (f : Nat → List Flt) : Nat → List Flt
  | 0 => []
  | n + 1 => flats f n ++ f n
theorem flats_zero {f : Nat → List Flt} : flats f 0 = [] := rfl
theorem flats_succ {f : Nat → List Flt} {n : Nat} : flats f (n + 1) = flats f n ++ f n := rfl
theorem flats_len {f : Nat → List Flt} {m : Nat} (h : ∀ i, (f i).length ≤ m) : ∀ n, (flats f n).length ≤ n * m
  | 0 => by simp [flats]
  | n + 1 => by have := flats_len h n; have := h n; simp only [flats, List.length_append, Nat.add_mul, Nat.one_mul]; omega
def shapeAt (s : St) (g : Nat) : List Flt := if (s.nsp g : Int) = s.cpus then [] else [⟨2, 3, g⟩]
theorem shapeAt_len (s : St) (g : Nat) : (shapeAt s g).length ≤ 1 := by unfold shapeAt; split <;> simp
def shapesL (s : St) : List Flt :=
  (if (s.nk : Int) ≠ s.cpus then [⟨2, 0, 0⟩] else []) ++ (if (s.nu : Int) ≠ s.cpus then [⟨2, 1, 0⟩] else []) ++
    (if s.ns ≠ s.ng then [⟨2, 2, 0⟩] else flats (shapeAt s) s.ns)
set_option maxRecDepth 20000
theorem shapes_ref (s : St) (hn : s.ns ≤ 1000) : Pure Tryz.prog Γ 187 [.agg s.cells] (rows 3 ((shapesL s).map Flt.row)) := by
  refine Pure_at Tryz.func187 rfl 60 rfl (Nat.le_of_ble_eq_true rfl) rfl fun k => ?_
  refine C_seq rfl ?_
  refine S_reg rfl [0,1,2,3,4,5,13,22,34,43,53] [] rfl (fun K hK => ?_); simp -dsimp -implicitDefEqProofs only [go_sem, eq_self, ↓reduceIte]; (refine hK _ _ _ _ (fun hx => ?_)); clear hx hK; simp -dsimp -implicitDefEqProofs only [go_sem, eq_self, ↓reduceIte]
  refine C_seq rfl ?_
  refine S_reg rfl [0,1,2,3,4,5,13,22,34,43,53] [] rfl (fun K hK => ?_); simp -dsimp -implicitDefEqProofs only [go_sem, eq_self, ↓reduceIte]; (refine hK _ _ _ _ (fun hx => ?_)); clear hx hK; simp -dsimp -implicitDefEqProofs only [go_sem, eq_self, ↓reduceIte]
  refine C_seq rfl ?_
  refine S_reg rfl [0,1,2,3,4,5,13,22,34,43,53] [] rfl (fun K hK => ?_); simp -dsimp -implicitDefEqProofs only [go_sem, eq_self, ↓reduceIte]; (refine hK _ _ _ _ (fun hx => ?_)); clear hx hK; simp -dsimp -implicitDefEqProofs only [go_sem, eq_self, ↓reduceIte]
  refine M_mid (X := List Flt) rfl (k + 2) (fun l => [(1, .ptr k 0 0), (2, .lit (.slice none 0 0)), (3, accV (k + 1) (List.map Flt.row (l))), (4, .lit (.int .i64 s.cpus))]) (fun l => accH (k + 1) 3 (List.map Flt.row (l)) [(k, ⟨7, true, [St.cells s]⟩)]) (fun l => l = if (s.nk : Int) ≠ s.cpus then [⟨2, 0, 0⟩] else []) ?_ ?_
  · (repeat (first | (refine C_seq rfl ?_) | (refine C_block rfl ?_) | (refine S_reg rfl [1,2,3,4,13] [] rfl (fun K hK => ?_); simp -dsimp -implicitDefEqProofs only [go_sem, eq_self, ↓reduceIte]; (refine hK _ _ _ _ (fun hx => ?_)); clear hx hK; simp -dsimp -implicitDefEqProofs only [go_sem, eq_self, ↓reduceIte]; clear K) | (refine C_skip rfl ?_; simp -dsimp -implicitDefEqProofs only [go_sem, eq_self, ↓reduceIte])))
    refine C_cond rfl _ rfl (fun ht => ?_) (fun hf => ?_)
    · (repeat (first | (refine C_seq rfl ?_) | (refine C_block rfl ?_) | (refine S_reg rfl [1,2,3,4,13] [] rfl (fun K hK => ?_); simp -dsimp -implicitDefEqProofs only [go_sem, eq_self, ↓reduceIte]; (refine hK _ _ _ _ (fun hx => ?_)); clear hx hK; simp -dsimp -implicitDefEqProofs only [go_sem, eq_self, ↓reduceIte]; clear K) | (refine C_skip rfl ?_; simp -dsimp -implicitDefEqProofs only [go_sem, eq_self, ↓reduceIte])))
      refine ⟨[⟨2, 0, 0⟩], by simpa using ht, ?_⟩
      exact Mv.app (k + 2) (k + 1) ⟨by omega, by omega⟩ ⟨by omega, by omega⟩ (wk_low (by omega) (by simp -dsimp -implicitDefEqProofs only [go_sem, List.map_append, Flt.row, eq_self, ↓reduceIte]) (by simp -dsimp -implicitDefEqProofs only [go_sem, List.map_append, Flt.row, eq_self, ↓reduceIte]) (by simp -dsimp -implicitDefEqProofs only [go_sem, List.map_append, Flt.row, eq_self, ↓reduceIte]) (by simp -dsimp -implicitDefEqProofs only [go_sem, List.map_append, Flt.row, eq_self, ↓reduceIte]))
    · (repeat (first | (refine C_seq rfl ?_) | (refine C_block rfl ?_) | (refine S_reg rfl [1,2,3,4,13] [] rfl (fun K hK => ?_); simp -dsimp -implicitDefEqProofs only [go_sem, eq_self, ↓reduceIte]; (refine hK _ _ _ _ (fun hx => ?_)); clear hx hK; simp -dsimp -implicitDefEqProofs only [go_sem, eq_self, ↓reduceIte]; clear K) | (refine C_skip rfl ?_; simp -dsimp -implicitDefEqProofs only [go_sem, eq_self, ↓reduceIte])))
      refine ⟨[], by simpa using hf, ?_⟩
      exact wkF
  intro l1 hl1
  refine M_mid (X := List Flt) rfl (k + 2) (fun l => [(1, .ptr k 0 0), (2, .lit (.slice none 0 0)), (3, accV (k + 1) (List.map Flt.row (l))), (4, .lit (.int .i64 s.cpus))]) (fun l => accH (k + 1) 3 (List.map Flt.row (l)) [(k, ⟨7, true, [St.cells s]⟩)]) (fun l => l = l1 ++ if (s.nu : Int) ≠ s.cpus then [⟨2, 1, 0⟩] else []) ?_ ?_
  · (repeat (first | (refine C_seq rfl ?_) | (refine C_block rfl ?_) | (refine S_reg rfl [1,2,3,4,22] [] rfl (fun K hK => ?_); simp -dsimp -implicitDefEqProofs only [go_sem, eq_self, ↓reduceIte]; (refine hK _ _ _ _ (fun hx => ?_)); clear hx hK; simp -dsimp -implicitDefEqProofs only [go_sem, eq_self, ↓reduceIte]; clear K) | (refine C_skip rfl ?_; simp -dsimp -implicitDefEqProofs only [go_sem, eq_self, ↓reduceIte])))
    refine C_cond rfl _ rfl (fun ht => ?_) (fun hf => ?_)
    · have hlen : l1.length ≤ 1 := by rw [hl1]; split <;> simp
      rw [if_pos (by simpa using ht)]
      clear hl1
      rcases l1 with _ | ⟨x1, l1⟩
      all_goals (refine S_reg rfl [1,2,3,4] [] rfl (fun K hK => ?_); simp -dsimp -implicitDefEqProofs only [go_sem, eq_self, ↓reduceIte]; (repeat' (first | (refine And.intro ?_ ?_) | (refine gs_both (fun hb => ?_) (fun hb => ?_) <;> (have hg := hb; (try simp only [nfb] at hg); simp -dsimp -implicitDefEqProofs only [go_sem, hb, hg, eq_self, ↓reduceIte]; clear hb; (try simp only [nfe] at hg))))); (any_goals ((refine hK _ _ _ _ (fun hx => ?_)); clear hx hK; simp -dsimp -implicitDefEqProofs only [go_sem, eq_self, ↓reduceIte]; (try simp (disch := omega) only [wrap_i64, wrap_u64, wrap_u32, wrap_u8]))); (all_goals (try omega)))
      all_goals (try (simp only [List.length_cons] at hlen; omega))
      all_goals (refine ⟨_, rfl, ?_⟩)
      all_goals (exact Mv.app (k + 3) (k + 1) ⟨by omega, by omega⟩ ⟨by omega, by omega⟩ (wk_low (by omega) (by simp -dsimp -implicitDefEqProofs only [go_sem, List.map_append, Flt.row, eq_self, ↓reduceIte]) (by simp -dsimp -implicitDefEqProofs only [go_sem, List.map_append, Flt.row, eq_self, ↓reduceIte]) (by simp -dsimp -implicitDefEqProofs only [go_sem, List.map_append, Flt.row, eq_self, ↓reduceIte]) (by simp -dsimp -implicitDefEqProofs only [go_sem, List.map_append, Flt.row, eq_self, ↓reduceIte])))
    · (repeat (first | (refine C_seq rfl ?_) | (refine C_block rfl ?_) | (refine S_reg rfl [1,2,3,4,22] [] rfl (fun K hK => ?_); simp -dsimp -implicitDefEqProofs only [go_sem, eq_self, ↓reduceIte]; (refine hK _ _ _ _ (fun hx => ?_)); clear hx hK; simp -dsimp -implicitDefEqProofs only [go_sem, eq_self, ↓reduceIte]; clear K) | (refine C_skip rfl ?_; simp -dsimp -implicitDefEqProofs only [go_sem, eq_self, ↓reduceIte])))
      refine ⟨l1 ++ [], by rw [if_neg (by simpa using hf)], ?_⟩
      rw [List.append_nil]
      exact wkF
  intro l2 hl2
  have hl2' : l2 = (if (s.nk : Int) ≠ s.cpus then [⟨2, 0, 0⟩] else []) ++ (if (s.nu : Int) ≠ s.cpus then [⟨2, 1, 0⟩] else []) := by rw [hl2, hl1]
  clear hl2 hl1
  have hlen : l2.length ≤ 2 := by rw [hl2']; split <;> split <;> simp
  refine C_seq rfl ?_
  (repeat (first | (refine C_seq rfl ?_) | (refine C_block rfl ?_) | (refine S_reg rfl [1,2,3,4,34] [] rfl (fun K hK => ?_); simp -dsimp -implicitDefEqProofs only [go_sem, eq_self, ↓reduceIte]; (refine hK _ _ _ _ (fun hx => ?_)); clear hx hK; simp -dsimp -implicitDefEqProofs only [go_sem, eq_self, ↓reduceIte]; clear K) | (refine C_skip rfl ?_; simp -dsimp -implicitDefEqProofs only [go_sem, eq_self, ↓reduceIte])))
  refine C_cond rfl _ rfl (fun ht => ?_) (fun hf => ?_)
  · have hne : s.ns ≠ s.ng := by simp only [bne_iff_ne, ne_eq] at ht; omega
    refine C_seq rfl ?_
    generalize hL : (l2 ++ [⟨2, 2, 0⟩] : List Flt) = L
    have hspec : shapesL s = L := by rw [← hL, hl2', shapesL, if_pos hne]
    rcases l2 with _ | ⟨x1, l2⟩
    all_goals (refine S_reg rfl [1,2] [] rfl (fun K hK => ?_); simp -dsimp -implicitDefEqProofs only [go_sem, eq_self, ↓reduceIte]; (repeat' (first | (refine And.intro ?_ ?_) | (refine gs_both (fun hb => ?_) (fun hb => ?_) <;> (have hg := hb; (try simp only [nfb] at hg); simp -dsimp -implicitDefEqProofs only [go_sem, hb, hg, eq_self, ↓reduceIte]; clear hb; (try simp only [nfe] at hg))))); (any_goals ((refine hK _ _ _ _ (fun hx => ?_)); clear hx hK; simp -dsimp -implicitDefEqProofs only [go_sem, eq_self, ↓reduceIte]; (try simp (disch := omega) only [wrap_i64, wrap_u64, wrap_u32, wrap_u8]))); (all_goals (try omega)))
    all_goals (try (simp only [List.length_cons] at hlen; omega))
    all_goals (refine M_racc rfl (id := k + 3) (s := 3) (l := List.map Flt.row L) 2 (by subst hL; simp -dsimp -implicitDefEqProofs only [go_sem, List.map_append, Flt.row, eq_self, ↓reduceIte]) (by subst hL; simp -dsimp -implicitDefEqProofs only [go_sem, List.map_append, Flt.row, eq_self, ↓reduceIte]) ?_)
    all_goals (exact ⟨_, rfl, by rw [hspec]; exact VLe.refl _⟩)
  · have heq : s.ns = s.ng := by simp only [bne_eq_false_iff_eq] at hf; omega
    refine C_skip rfl ?_; simp -dsimp -implicitDefEqProofs only [go_sem, eq_self, ↓reduceIte]
    (repeat (first | (refine C_seq rfl ?_) | (refine C_block rfl ?_) | (refine S_reg rfl [1,2,3,4,5,43,53] [] rfl (fun K hK => ?_); simp -dsimp -implicitDefEqProofs only [go_sem, eq_self, ↓reduceIte]; (refine hK _ _ _ _ (fun hx => ?_)); clear hx hK; simp -dsimp -implicitDefEqProofs only [go_sem, eq_self, ↓reduceIte]; clear K) | (refine C_skip rfl ?_; simp -dsimp -implicitDefEqProofs only [go_sem, eq_self, ↓reduceIte])))
    refine M_for (X := Nat) rfl (k + 2) (fun i => (5, .lit (.int .i64 (i : Int))) :: [(1, .ptr k 0 0), (2, .lit (.slice none 0 0)), (3, accV (k + 1) (List.map Flt.row ((l2 ++ flats (shapeAt s) (i))))), (4, .lit (.int .i64 s.cpus))]) (fun i => accH (k + 1) 3 (List.map Flt.row ((l2 ++ flats (shapeAt s) (i)))) [(k, ⟨7, true, [St.cells s]⟩)]) (fun i => i ≤ s.ns) (fun i => s.ns - i) 0 ?_ (Nat.zero_le _) ?_
    · simp only [flats_zero, List.append_nil]
      rw [show ((0 : Nat) : Int) = 0 from rfl]
      exact wkF
    intro i hi
    have hfl := flats_len (shapeAt_len s) i
    refine C_seq rfl ?_
    (repeat (first | (refine C_seq rfl ?_) | (refine C_block rfl ?_) | (refine S_reg rfl [1,2,3,4,5,43] [] rfl (fun K hK => ?_); simp -dsimp -implicitDefEqProofs only [go_sem, eq_self, ↓reduceIte]; (refine hK _ _ _ _ (fun hx => ?_)); clear hx hK; simp -dsimp -implicitDefEqProofs only [go_sem, eq_self, ↓reduceIte]; clear K) | (refine C_skip rfl ?_; simp -dsimp -implicitDefEqProofs only [go_sem, eq_self, ↓reduceIte])))
    refine C_cond rfl _ rfl (fun ht => ?_) (fun hf => ?_)
    · simp only [decide_eq_true_eq] at ht
      refine C_skip rfl ?_; simp -dsimp -implicitDefEqProofs only [go_sem, eq_self, ↓reduceIte]
      refine M_mid (X := List Flt) rfl (k + 2) (fun l => (5, .lit (.int .i64 (i : Int))) :: [(1, .ptr k 0 0), (2, .lit (.slice none 0 0)), (3, accV (k + 1) (List.map Flt.row (l))), (4, .lit (.int .i64 s.cpus))]) (fun l => accH (k + 1) 3 (List.map Flt.row (l)) [(k, ⟨7, true, [St.cells s]⟩)]) (fun l => l = (l2 ++ flats (shapeAt s) (i + 1))) ?_ ?_
      · generalize hL : (l2 ++ flats (shapeAt s) (i)) = L
        have hLl : L.length ≤ 1002 := by rw [← hL, List.length_append]; omega
        refine C_block rfl ?_
        refine C_seq rfl ?_
        refine S_reg rfl [1,2,3,4,5,53] [] rfl (fun K hK => ?_); simp -dsimp -implicitDefEqProofs only [go_sem, eq_self, ↓reduceIte]; (repeat' (first | (refine And.intro ?_ ?_) | (refine gs_both (fun hb => ?_) (fun hb => ?_) <;> (have hg := hb; (try simp only [nfb] at hg); simp -dsimp -implicitDefEqProofs only [go_sem, hb, hg, eq_self, ↓reduceIte]; clear hb; (try simp only [nfe] at hg))))); (any_goals ((refine hK _ _ _ _ (fun hx => ?_)); clear hx hK; simp -dsimp -implicitDefEqProofs only [go_sem, eq_self, ↓reduceIte]; (try simp (disch := omega) only [wrap_i64, wrap_u64, wrap_u32, wrap_u8]))); (all_goals (try omega))
        all_goals (try omega)
        refine C_cond rfl _ rfl (fun ht => ?_) (fun hf => ?_)
        · have hne : l2 ++ flats (shapeAt s) (i + 1) = L ++ [⟨2, 3, i⟩] := by
            simp only [bne_iff_ne, ne_eq] at ht
            rw [flats_succ, ← List.append_assoc, hL, shapeAt, if_neg ht]
          rw [hne]
          clear hL hne
          rcases L with _ | ⟨x1, L⟩
          all_goals (refine S_reg rfl [1,2,3,4,5] [] rfl (fun K hK => ?_); simp -dsimp -implicitDefEqProofs only [go_sem, eq_self, ↓reduceIte]; (repeat' (first | (refine And.intro ?_ ?_) | (refine gs_both (fun hb => ?_) (fun hb => ?_) <;> (have hg := hb; (try simp only [nfb] at hg); simp -dsimp -implicitDefEqProofs only [go_sem, hb, hg, eq_self, ↓reduceIte]; clear hb; (try simp only [nfe] at hg))))); (any_goals ((refine hK _ _ _ _ (fun hx => ?_)); clear hx hK; simp -dsimp -implicitDefEqProofs only [go_sem, eq_self, ↓reduceIte]; (try simp (disch := omega) only [wrap_i64, wrap_u64, wrap_u32, wrap_u8]))); (all_goals (try omega)))
          all_goals (try (simp only [List.length_cons] at hLl; omega))
          all_goals (refine ⟨_, rfl, ?_⟩)
          all_goals (exact Mv.app (k + 3) (k + 1) ⟨by omega, by omega⟩ ⟨by omega, by omega⟩ (wk_low (by omega) (by simp -dsimp -implicitDefEqProofs only [go_sem, List.map_append, Flt.row, eq_self, ↓reduceIte]) (by simp -dsimp -implicitDefEqProofs only [go_sem, List.map_append, Flt.row, eq_self, ↓reduceIte]) (by simp -dsimp -implicitDefEqProofs only [go_sem, List.map_append, Flt.row, eq_self, ↓reduceIte]) (by simp -dsimp -implicitDefEqProofs only [go_sem, List.map_append, Flt.row, eq_self, ↓reduceIte])))
        · refine C_skip rfl ?_; simp -dsimp -implicitDefEqProofs only [go_sem, eq_self, ↓reduceIte]
          refine ⟨L, by simp only [bne_eq_false_iff_eq] at hf; rw [flats_succ, ← List.append_assoc, hL, shapeAt, if_pos hf, List.append_nil], ?_⟩
          exact wkF
      · intro l hl
        (repeat (first | (refine C_seq rfl ?_) | (refine C_block rfl ?_) | (refine S_reg rfl [1,2,3,4,5] [] rfl (fun K hK => ?_); simp -dsimp -implicitDefEqProofs only [go_sem, eq_self, ↓reduceIte]; (refine hK _ _ _ _ (fun hx => ?_)); clear hx hK; simp -dsimp -implicitDefEqProofs only [go_sem, eq_self, ↓reduceIte]; clear K) | (refine C_skip rfl ?_; simp -dsimp -implicitDefEqProofs only [go_sem, eq_self, ↓reduceIte])))
        refine ⟨i + 1, by omega, by omega, ?_⟩
        rw [wrap_i64 (by omega) (by omega), ← hl, show ((i + 1 : Nat) : Int) = (i : Int) + 1 from rfl]
        exact wkF
    · simp only [decide_eq_false_iff_not] at hf
      refine C_exit rfl ?_
      refine rR ?_ <;> first | exact hdT | apply zN
      (repeat (first | (refine C_seq rfl ?_) | (refine C_block rfl ?_) | (refine S_reg rfl [1,2,3,4,5] [] rfl (fun K hK => ?_); simp -dsimp -implicitDefEqProofs only [go_sem, eq_self, ↓reduceIte]; (refine hK _ _ _ _ (fun hx => ?_)); clear hx hK; simp -dsimp -implicitDefEqProofs only [go_sem, eq_self, ↓reduceIte]; clear K) | (refine C_skip rfl ?_; simp -dsimp -implicitDefEqProofs only [go_sem, eq_self, ↓reduceIte])))
      have hi' : i = s.ns := by omega
      subst hi'
      refine M_racc rfl (id := k + 1) (s := 3) (l := List.map Flt.row (l2 ++ flats (shapeAt s) s.ns)) 2 (by simp -dsimp -implicitDefEqProofs only [go_sem, List.map_append, Flt.row, eq_self, ↓reduceIte]) (by simp -dsimp -implicitDefEqProofs only [go_sem, List.map_append, Flt.row, eq_self, ↓reduceIte]) ?_
      exact ⟨_, rfl, by rw [shapesL, ← hl2', if_neg (by simp [heq])]; exact VLe.refl _⟩
end Go.Proofs.T
end
section
namespace Go.Proofs.T
open Go Go.AM Go.Proofs
set_option maxRecDepth 20000
variable {Γ : List (Nat × List AVal)}
def anyB (f : Nat → Bool) : Nat → Bool
  | 0 => false
  | n + 1 => anyB f n || f n
theorem anyB_true {f : Nat → Bool} {i : Nat} (h : f i = true) : ∀ {n : Nat}, i < n → anyB f n = true
  | 0, hn => absurd hn (by omega)
  | n + 1, hn => by
    simp only [anyB, Bool.or_eq_true]
    by_cases he : i = n
    · subst he; exact .inr h
    · exact .inl (anyB_true h (by omega))
theorem anyB_iff {f : Nat → Bool} : ∀ {n : Nat}, anyB f n = true ↔ ∃ i, i < n ∧ f i = true
  | 0 => by simp [anyB]
  | n + 1 => by
    simp only [anyB, Bool.or_eq_true, anyB_iff]
    constructor
    · rintro (⟨i, h1, h2⟩ | h)
      · exact ⟨i, by omega, h2⟩
      · exact ⟨n, by omega, h⟩
    · rintro ⟨i, h1, h2⟩
      by_cases he : i = n
      · subst he; exact .inr h2
      · exact .inl ⟨i, by omega, h2⟩
def isReady (s : St) (id c : Int) (i : Nat) : Bool := decide ((s.tsk i).id = id) && ((s.tsk i).ready && decide ((s.tsk i).cpu = c))
theorem ready_ref (s : St) (id c : Int) (hn : s.nt ≤ 1000) : Pure Tryz.prog Γ 243 [.agg s.cells, .lit (.int .i64 id), .lit (.int .i64 c)] (.lit (.bool (anyB (isReady s id c) s.nt))) := by
  refine Pure_at Tryz.func243 rfl 41 rfl (Nat.le_of_ble_eq_true rfl) rfl fun k => ?_
  (repeat (first | (refine C_seq rfl ?_) | (refine C_block rfl ?_) | (refine S_reg rfl [1,2,3,6,7] [] rfl (fun K hK => ?_); simp -dsimp -implicitDefEqProofs only [go_sem, eq_self, ↓reduceIte]; (refine hK _ _ _ _ (fun hx => ?_)); clear hx hK; simp -dsimp -implicitDefEqProofs only [go_sem, eq_self, ↓reduceIte]; clear K) | (refine C_skip rfl ?_; simp -dsimp -implicitDefEqProofs only [go_sem, eq_self, ↓reduceIte])))
  refine M_for (X := Nat) rfl (k + 1) (fun i => [(1, .lit (.int .i64 id)), (2, .lit (.int .i64 c)), (3, .ptr k 0 0), (7, .lit (.int .i64 (i : Int)))]) (fun i => [(k, ⟨7, true, [St.cells s]⟩)]) (fun i => i ≤ s.nt ∧ anyB (isReady s id c) i = false) (fun i => s.nt - i) 0 ?_ ⟨Nat.zero_le _, rfl⟩ ?_
  · rw [show ((0 : Nat) : Int) = 0 from rfl]
    exact wkF
  rintro i ⟨hi, hany⟩
  refine C_seq rfl ?_
  (repeat (first | (refine C_seq rfl ?_) | (refine C_block rfl ?_) | (refine S_reg rfl [1,2,3,7,12] [] rfl (fun K hK => ?_); simp -dsimp -implicitDefEqProofs only [go_sem, eq_self, ↓reduceIte]; (refine hK _ _ _ _ (fun hx => ?_)); clear hx hK; simp -dsimp -implicitDefEqProofs only [go_sem, eq_self, ↓reduceIte]; clear K) | (refine C_skip rfl ?_; simp -dsimp -implicitDefEqProofs only [go_sem, eq_self, ↓reduceIte])))
  refine C_cond rfl _ rfl (fun ht => ?_) (fun hf => ?_)
  · simp only [decide_eq_true_eq] at ht
    refine C_skip rfl ?_; simp -dsimp -implicitDefEqProofs only [go_sem, eq_self, ↓reduceIte]
    refine M_mid (X := Unit) rfl (k + 1) (fun _ => [(1, .lit (.int .i64 id)), (2, .lit (.int .i64 c)), (3, .ptr k 0 0), (7, .lit (.int .i64 (i : Int)))]) (fun _ => [(k, ⟨7, true, [St.cells s]⟩)]) (fun _ => isReady s id c i = false) ?_ ?_
    · refine C_block rfl ?_
      refine C_seq rfl ?_
      refine S_reg rfl [1,2,3,7,40] [] rfl (fun K hK => ?_); simp -dsimp -implicitDefEqProofs only [go_sem, eq_self, ↓reduceIte]; (repeat' (first | (refine And.intro ?_ ?_) | (refine gs_both (fun hb => ?_) (fun hb => ?_) <;> (have hg := hb; (try simp only [nfb] at hg); simp -dsimp -implicitDefEqProofs only [go_sem, hb, hg, eq_self, ↓reduceIte]; clear hb; (try simp only [nfe] at hg))))); (any_goals ((refine hK _ _ _ _ (fun hx => ?_)); clear hx hK; simp -dsimp -implicitDefEqProofs only [go_sem, eq_self, ↓reduceIte]; (try simp (disch := omega) only [wrap_i64, wrap_u64, wrap_u32, wrap_u8]))); (all_goals (try omega))
      all_goals (try omega)
      all_goals (refine C_cond rfl _ rfl (fun ht => ?_) (fun hf => ?_))
      all_goals (first | (have hrt : isReady s id c i = true := by (simp only [isReady, Bool.and_eq_true, decide_eq_true_eq]; simp_all)) | (have hrf : isReady s id c i = false := by (simp only [isReady, Bool.and_eq_false_iff, decide_eq_false_iff_not]; simp_all)) | (exact absurd ht (by simp)))
      all_goals (first | ((repeat (first | (refine C_seq rfl ?_) | (refine C_block rfl ?_) | (refine S_reg rfl [6] [] rfl (fun K hK => ?_); simp -dsimp -implicitDefEqProofs only [go_sem, eq_self, ↓reduceIte]; (refine hK _ _ _ _ (fun hx => ?_)); clear hx hK; simp -dsimp -implicitDefEqProofs only [go_sem, eq_self, ↓reduceIte]; clear K) | (refine C_skip rfl ?_; simp -dsimp -implicitDefEqProofs only [go_sem, eq_self, ↓reduceIte]))); refine C_ret rfl ⟨_, rfl, VLe.of_eq ?_⟩; rw [anyB_true hrt (by omega)]) | (refine C_skip rfl ?_; simp -dsimp -implicitDefEqProofs only [go_sem, eq_self, ↓reduceIte]; exact ⟨(), hrf, by exact wkF⟩))
    · rintro _ hrf
      (repeat (first | (refine C_seq rfl ?_) | (refine C_block rfl ?_) | (refine S_reg rfl [1,2,3,7] [] rfl (fun K hK => ?_); simp -dsimp -implicitDefEqProofs only [go_sem, eq_self, ↓reduceIte]; (refine hK _ _ _ _ (fun hx => ?_)); clear hx hK; simp -dsimp -implicitDefEqProofs only [go_sem, eq_self, ↓reduceIte]; clear K) | (refine C_skip rfl ?_; simp -dsimp -implicitDefEqProofs only [go_sem, eq_self, ↓reduceIte])))
      refine ⟨i + 1, ⟨by omega, by rw [anyB, hany, hrf]; rfl⟩, by omega, ?_⟩
      rw [wrap_i64 (by omega) (by omega), show ((i + 1 : Nat) : Int) = (i : Int) + 1 from rfl]
      exact wkF
  · simp only [decide_eq_false_iff_not] at hf
    refine C_exit rfl ?_
    refine rR ?_ <;> first | exact hdT | apply zN
    (repeat (first | (refine C_seq rfl ?_) | (refine C_block rfl ?_) | (refine S_reg rfl [6] [] rfl (fun K hK => ?_); simp -dsimp -implicitDefEqProofs only [go_sem, eq_self, ↓reduceIte]; (refine hK _ _ _ _ (fun hx => ?_)); clear hx hK; simp -dsimp -implicitDefEqProofs only [go_sem, eq_self, ↓reduceIte]; clear K) | (refine C_skip rfl ?_; simp -dsimp -implicitDefEqProofs only [go_sem, eq_self, ↓reduceIte])))
    have hi' : i = s.nt := by omega
    subst hi'
    refine C_ret rfl ⟨_, rfl, VLe.of_eq ?_⟩
    rw [hany]
theorem half_pow (m : Int) (i : Nat) (hm : 0 ≤ m) : (m / 2 ^ i).tdiv 2 = m / 2 ^ (i + 1) := by
  rw [Int.tdiv_eq_ediv_of_nonneg (Int.ediv_nonneg hm (Int.le_of_lt (Int.pow_pos (by omega)))), Int.ediv_ediv_of_nonneg (Int.le_of_lt (Int.pow_pos (by omega))), Int.pow_succ]
theorem pow_bd (m : Int) (i : Nat) (hm : 0 ≤ m) : 0 ≤ m / 2 ^ i ∧ m / 2 ^ i ≤ m :=
  ⟨Int.ediv_nonneg hm (Int.le_of_lt (Int.pow_pos (by omega))), Int.ediv_le_self _ hm⟩
def bitB (m : Int) (c : Nat) : Bool := decide (m / 2 ^ c % 2 = 1)
theorem bit_ref (m c : Int) (hm : 0 ≤ m) (hm2 : m < 18446744073709551616) (hc : c ≤ 9223372036854775807) : Pure Tryz.prog Γ 275 [.lit (.int .u64 m), .lit (.int .i64 c)] (.lit (.bool (bitB m c.toNat))) := by
  refine Pure_at Tryz.func275 rfl 16 rfl (Nat.le_of_ble_eq_true rfl) rfl fun k => ?_
  (repeat (first | (refine C_seq rfl ?_) | (refine C_block rfl ?_) | (refine S_reg rfl [0,1,4,5,8] [] rfl (fun K hK => ?_); simp -dsimp -implicitDefEqProofs only [go_sem, eq_self, ↓reduceIte]; (refine hK _ _ _ _ (fun hx => ?_)); clear hx hK; simp -dsimp -implicitDefEqProofs only [go_sem, eq_self, ↓reduceIte]; clear K) | (refine C_skip rfl ?_; simp -dsimp -implicitDefEqProofs only [go_sem, eq_self, ↓reduceIte])))
  refine M_for (X := Nat) rfl k (fun i => [(0, .lit (.int .u64 (m / 2 ^ i))), (1, .lit (.int .i64 c)), (5, .lit (.int .i64 (i : Int)))]) (fun _ => []) (fun i => i ≤ c.toNat) (fun i => c.toNat - i) 0 ?_ (Nat.zero_le _) ?_
  · rw [show ((0 : Nat) : Int) = 0 from rfl, Int.pow_zero, Int.ediv_one]
    exact wkF
  intro i hi
  have hb := pow_bd m i hm
  (repeat (first | (refine C_seq rfl ?_) | (refine C_block rfl ?_) | (refine S_reg rfl [0,1,4,5,8] [] rfl (fun K hK => ?_); simp -dsimp -implicitDefEqProofs only [go_sem, eq_self, ↓reduceIte]; (refine hK _ _ _ _ (fun hx => ?_)); clear hx hK; simp -dsimp -implicitDefEqProofs only [go_sem, eq_self, ↓reduceIte]; clear K) | (refine C_skip rfl ?_; simp -dsimp -implicitDefEqProofs only [go_sem, eq_self, ↓reduceIte])))
  refine C_cond rfl _ rfl (fun ht => ?_) (fun hf => ?_)
  · simp only [decide_eq_true_eq] at ht
    (repeat (first | (refine C_seq rfl ?_) | (refine C_block rfl ?_) | (refine S_reg rfl [0,1,4,5,8] [] rfl (fun K hK => ?_); simp -dsimp -implicitDefEqProofs only [go_sem, eq_self, ↓reduceIte]; (refine hK _ _ _ _ (fun hx => ?_)); clear hx hK; simp -dsimp -implicitDefEqProofs only [go_sem, eq_self, ↓reduceIte]; clear K) | (refine C_skip rfl ?_; simp -dsimp -implicitDefEqProofs only [go_sem, eq_self, ↓reduceIte])))
    refine ⟨i + 1, by omega, by omega, ?_⟩
    rw [half_pow m i hm, wrap_u64 (pow_bd m (i + 1) hm).1 (by have := (pow_bd m (i + 1) hm).2; omega), wrap_i64 (by omega) (by omega), show ((i + 1 : Nat) : Int) = (i : Int) + 1 from rfl]
    exact wkF
  · simp only [decide_eq_false_iff_not] at hf
    refine C_exit rfl ?_
    refine rR ?_ <;> first | exact hdT | apply zN
    (repeat (first | (refine C_seq rfl ?_) | (refine C_block rfl ?_) | (refine S_reg rfl [0,1,4,5,8] [] rfl (fun K hK => ?_); simp -dsimp -implicitDefEqProofs only [go_sem, eq_self, ↓reduceIte]; (refine hK _ _ _ _ (fun hx => ?_)); clear hx hK; simp -dsimp -implicitDefEqProofs only [go_sem, eq_self, ↓reduceIte]; clear K) | (refine C_skip rfl ?_; simp -dsimp -implicitDefEqProofs only [go_sem, eq_self, ↓reduceIte])))
    have hi' : i = c.toNat := by omega
    subst hi'
    refine C_ret rfl ⟨_, rfl, VLe.of_eq ?_⟩
    have h1 : (m / 2 ^ c.toNat).tmod 2 = m / 2 ^ c.toNat % 2 := Int.tmod_eq_emod_of_nonneg hb.1
    rw [h1]
    simp only [AVal.lit.injEq, Value.bool.injEq, bitB]
    rw [Bool.eq_iff_iff]; simp
end Go.Proofs.T
end
section
namespace Go.Proofs.T
open Go Go.AM Go.Proofs
set_option maxRecDepth 20000
variable {Γ : List (Nat × List AVal)}
theorem copyInts (n : Nat) (f : Nat → Int) (hn : n ≤ 1000) : Pure Tryz.prog Γ 99 [.rd 1 n (fun i => [.lit (.int .i64 (f i))])] (.rd 1 n (fun i => [.lit (.int .i64 (f i))])) := by
  refine Pure_at Tryz.func99 rfl 7 rfl (Nat.le_of_ble_eq_true rfl) rfl fun k => ?_
  rcases Nat.eq_zero_or_pos n with rfl | hpos
  · have kp : Kp [0,2,3] (fun i => i - k) := kpI
    refine wl ?_ <;> and_intros <;> first | exact hdT | (apply zM; (repeat intro ht); apply zM; (repeat intro hg); apply zM)
    exact C_ret rfl ⟨_, rfl, VLe.nil _ _⟩
  · have hne : n ≠ 0 := by omega
    have kp : Kp [0,2,3] (fun i => i - k) := kpI
    have uU := zA @hne @hpos
    refine wl ?_ <;> and_intros <;> first | exact hdT | (apply zM; (repeat intro ht); apply zM; (repeat intro hg); apply zM)
    refine M_ret rfl (Mv.frz_copy (id := k) 2 (by simp -dsimp -implicitDefEqProofs only [go_sem, hne, hpos, List.map_append, Flt.row, eq_self, ↓reduceIte]) (by simp -dsimp -implicitDefEqProofs only [go_sem, hne, hpos, List.map_append, Flt.row, eq_self, ↓reduceIte])) ⟨_, rfl, VLe.refl _⟩
theorem sameListT (s : St) (n : Nat) (hn : n ≤ 1000) : Pure Tryz.prog Γ 142 [.rd 8 n (tf s), .rd 8 n (tf s)] (.lit (.bool true)) := by
  refine Pure_at Tryz.func142 rfl 26 rfl (Nat.le_of_ble_eq_true rfl) rfl fun k => ?_
  have kp : Kp [0,1,4,5,10,14,25] (fun i => i - k) := kpI
  refine wl ?_ <;> and_intros <;> first | exact hdT | (apply zM; (repeat intro ht); apply zM; (repeat intro hg); apply zM)
  refine M_forO (X := Nat) rfl [0,1,4,5,10,14,25] k (fun i => [(5, .lit (.int .i64 (i : Int)))]) (fun i => []) (fun i => i ≤ n) (fun i => n - i) 0 ?_ (Nat.zero_le _) ?_
  · refine rR ?_ <;> first | exact hdT | apply zN
    exact wkF
  intro i hi
  refine rR ?_ <;> first | exact hdT | apply zN
  refine wl ?_ <;> and_intros <;> first | exact hdT | (apply zM; (repeat intro ht); apply zM; (repeat intro hg); apply zM)
  · refine ⟨i + 1, by omega, by omega, ?_⟩
    refine rR ?_ <;> first | exact hdT | apply zN
    exact wkF
  · exact C_ret rfl ⟨_, rfl, VLe.refl _⟩
theorem sameListS (s : St) (g : Nat) (n : Nat) (hn : n ≤ 1000) : Pure Tryz.prog Γ 143 [.rd 3 n (sf s g), .rd 3 n (sf s g)] (.lit (.bool true)) := by
  refine Pure_at Tryz.func143 rfl 26 rfl (Nat.le_of_ble_eq_true rfl) rfl fun k => ?_
  have kp : Kp [0,1,4,5,10,14,25] (fun i => i - k) := kpI
  refine wl ?_ <;> and_intros <;> first | exact hdT | (apply zM; (repeat intro ht); apply zM; (repeat intro hg); apply zM)
  refine M_forO (X := Nat) rfl [0,1,4,5,10,14,25] k (fun i => [(5, .lit (.int .i64 (i : Int)))]) (fun i => []) (fun i => i ≤ n) (fun i => n - i) 0 ?_ (Nat.zero_le _) ?_
  · refine rR ?_ <;> first | exact hdT | apply zN
    exact wkF
  intro i hi
  refine rR ?_ <;> first | exact hdT | apply zN
  refine wl ?_ <;> and_intros <;> first | exact hdT | (apply zM; (repeat intro ht); apply zM; (repeat intro hg); apply zM)
  · refine ⟨i + 1, by omega, by omega, ?_⟩
    refine rR ?_ <;> first | exact hdT | apply zN
    exact wkF
  · exact C_ret rfl ⟨_, rfl, VLe.refl _⟩
theorem sameListG (s : St) (n : Nat) (hn : n ≤ 1000) : Pure Tryz.prog Γ 214 [.rd 2 n (gf s), .rd 2 n (gf s)] (.lit (.bool true)) := by
  refine Pure_at Tryz.func214 rfl 26 rfl (Nat.le_of_ble_eq_true rfl) rfl fun k => ?_
  have kp : Kp [0,1,4,5,10,14,25] (fun i => i - k) := kpI
  refine wl ?_ <;> and_intros <;> first | exact hdT | (apply zM; (repeat intro ht); apply zM; (repeat intro hg); apply zM)
  refine M_forO (X := Nat) rfl [0,1,4,5,10,14,25] k (fun i => [(5, .lit (.int .i64 (i : Int)))]) (fun i => []) (fun i => i ≤ n) (fun i => n - i) 0 ?_ (Nat.zero_le _) ?_
  · refine rR ?_ <;> first | exact hdT | apply zN
    exact wkF
  intro i hi
  refine rR ?_ <;> first | exact hdT | apply zN
  refine wl ?_ <;> and_intros <;> first | exact hdT | (apply zM; (repeat intro ht); apply zM; (repeat intro hg); apply zM)
  · refine ⟨i + 1, by omega, by omega, ?_⟩
    refine rR ?_ <;> first | exact hdT | apply zN
    exact wkF
  · exact C_ret rfl ⟨_, rfl, VLe.refl _⟩
theorem sameIntsK (s : St) (n : Nat) (hn : n ≤ 1000) : Pure Tryz.prog Γ 80 [.rd 1 n (kf s), .rd 1 n (kf s)] (.lit (.bool true)) := by
  refine Pure_at Tryz.func80 rfl 26 rfl (Nat.le_of_ble_eq_true rfl) rfl fun k => ?_
  have kp : Kp [0,1,4,5,10,14,25] (fun i => i - k) := kpI
  refine wl ?_ <;> and_intros <;> first | exact hdT | (apply zM; (repeat intro ht); apply zM; (repeat intro hg); apply zM)
  refine M_forO (X := Nat) rfl [0,1,4,5,10,14,25] k (fun i => [(5, .lit (.int .i64 (i : Int)))]) (fun i => []) (fun i => i ≤ n) (fun i => n - i) 0 ?_ (Nat.zero_le _) ?_
  · refine rR ?_ <;> first | exact hdT | apply zN
    exact wkF
  intro i hi
  refine rR ?_ <;> first | exact hdT | apply zN
  refine wl ?_ <;> and_intros <;> first | exact hdT | (apply zM; (repeat intro ht); apply zM; (repeat intro hg); apply zM)
  · refine ⟨i + 1, by omega, by omega, ?_⟩
    refine rR ?_ <;> first | exact hdT | apply zN
    exact wkF
  · exact C_ret rfl ⟨_, rfl, VLe.refl _⟩
theorem sameIntsU (s : St) (n : Nat) (hn : n ≤ 1000) : Pure Tryz.prog Γ 80 [.rd 1 n (uf s), .rd 1 n (uf s)] (.lit (.bool true)) := by
  refine Pure_at Tryz.func80 rfl 26 rfl (Nat.le_of_ble_eq_true rfl) rfl fun k => ?_
  have kp : Kp [0,1,4,5,10,14,25] (fun i => i - k) := kpI
  refine wl ?_ <;> and_intros <;> first | exact hdT | (apply zM; (repeat intro ht); apply zM; (repeat intro hg); apply zM)
  refine M_forO (X := Nat) rfl [0,1,4,5,10,14,25] k (fun i => [(5, .lit (.int .i64 (i : Int)))]) (fun i => []) (fun i => i ≤ n) (fun i => n - i) 0 ?_ (Nat.zero_le _) ?_
  · refine rR ?_ <;> first | exact hdT | apply zN
    exact wkF
  intro i hi
  refine rR ?_ <;> first | exact hdT | apply zN
  refine wl ?_ <;> and_intros <;> first | exact hdT | (apply zM; (repeat intro ht); apply zM; (repeat intro hg); apply zM)
  · refine ⟨i + 1, by omega, by omega, ?_⟩
    refine rR ?_ <;> first | exact hdT | apply zN
    exact wkF
  · exact C_ret rfl ⟨_, rfl, VLe.refl _⟩
theorem sameTasks (s : St) (n : Nat) (hn : n ≤ 1000) : Pure Tryz.prog Γ 81 [.rd 8 n (tf s), .rd 8 n (tf s)] (.lit (.bool true)) := by
  refine Pure_at Tryz.func81 rfl 8 rfl (Nat.le_of_ble_eq_true rfl) rfl fun k => ?_
  have kp : Kp [0,1,4] (fun i => i - k) := kpI
  refine wl ?_ <;> and_intros <;> first | exact hdT | (apply zM; (repeat intro ht); apply zM; (repeat intro hg); apply zM)
  refine cl [.ret (.lit (.bool true))] ?_ <;> and_intros <;> first | exact hdT | (apply zM; (repeat intro ht); apply zM; (repeat intro hg); apply zM)
  · exact sameListT s n hn
  · exact C_ret rfl ⟨_, rfl, VLe.refl _⟩
theorem sameSpots (s : St) (g : Nat) (n : Nat) (hn : n ≤ 1000) : Pure Tryz.prog Γ 82 [.rd 3 n (sf s g), .rd 3 n (sf s g)] (.lit (.bool true)) := by
  refine Pure_at Tryz.func82 rfl 8 rfl (Nat.le_of_ble_eq_true rfl) rfl fun k => ?_
  have kp : Kp [0,1,4] (fun i => i - k) := kpI
  refine wl ?_ <;> and_intros <;> first | exact hdT | (apply zM; (repeat intro ht); apply zM; (repeat intro hg); apply zM)
  refine cl [.ret (.lit (.bool true))] ?_ <;> and_intros <;> first | exact hdT | (apply zM; (repeat intro ht); apply zM; (repeat intro hg); apply zM)
  · exact sameListS s g n hn
  · exact C_ret rfl ⟨_, rfl, VLe.refl _⟩
theorem sameGroups (s : St) (n : Nat) (hn : n ≤ 1000) : Pure Tryz.prog Γ 141 [.rd 2 n (gf s), .rd 2 n (gf s)] (.lit (.bool true)) := by
  refine Pure_at Tryz.func141 rfl 8 rfl (Nat.le_of_ble_eq_true rfl) rfl fun k => ?_
  have kp : Kp [0,1,4] (fun i => i - k) := kpI
  refine wl ?_ <;> and_intros <;> first | exact hdT | (apply zM; (repeat intro ht); apply zM; (repeat intro hg); apply zM)
  refine cl [.ret (.lit (.bool true))] ?_ <;> and_intros <;> first | exact hdT | (apply zM; (repeat intro ht); apply zM; (repeat intro hg); apply zM)
  · exact sameListG s n hn
  · exact C_ret rfl ⟨_, rfl, VLe.refl _⟩
def St.cfg (s : St) : List AVal := [.lit (.int .i64 s.cpus), .lit (.int .u64 s.credit), .rd 2 s.ng (gf s)]
attribute [go_sem] St.cfg
structure St.Small (s : St) : Prop where
  ng : s.ng ≤ 1000
  nk : s.nk ≤ 1000
  nu : s.nu ≤ 1000
  nt : s.nt ≤ 1000
  ns : s.ns ≤ 1000
  nsp : ∀ g, g < s.ns → s.nsp g ≤ 1000
theorem sameConfig (s : St) (hs : s.Small) : Pure Tryz.prog Γ 79 [.agg s.cfg, .agg s.cfg] (.lit (.bool true)) := by
  have hng := hs.ng
  refine Pure_at Tryz.func79 rfl 24 rfl (Nat.le_of_ble_eq_true rfl) rfl fun k => ?_
  have kp : Kp [0,1,2,3,4] (fun i => i - k) := kpI
  refine wl ?_ <;> and_intros <;> first | exact hdT | (apply zM; (repeat intro ht); apply zM; (repeat intro hg); apply zM)
  refine cl [.ret (.lit (.bool true))] ?_ <;> and_intros <;> first | exact hdT | (apply zM; (repeat intro ht); apply zM; (repeat intro hg); apply zM)
  · exact sameGroups s s.ng hng
  all_goals (exact C_ret rfl ⟨_, rfl, VLe.refl _⟩)
theorem sameState (s : St) (hs : s.Small) : Pure Tryz.prog Γ 25 [.agg s.cells, .agg s.cells] (.lit (.bool true)) := by
  obtain ⟨hng, hnk, hnu, hnt, hns, hnsp⟩ := hs
  refine Pure_at Tryz.func25 rfl 64 rfl (Nat.le_of_ble_eq_true rfl) rfl fun k => ?_
  have kp : Kp [0,1,2,3,4,5,44,49,63] (fun i => i - k) := kpI
  refine wl ?_ <;> and_intros <;> first | exact hdT | (apply zM; (repeat intro ht); apply zM; (repeat intro hg); apply zM)
  refine cl [.ret (.lit (.bool true)), .ret (.lit (.bool true)), .ret (.lit (.bool true)), .ret (.lit (.bool true))] ?_ <;> and_intros <;> first | exact hdT | (apply zM; (repeat intro ht); apply zM; (repeat intro hg); apply zM)
  · exact sameConfig s ⟨hng, hnk, hnu, hnt, hns, hnsp⟩
  · exact sameIntsK s s.nk hnk
  · exact sameIntsU s s.nu hnu
  · exact sameTasks s s.nt hnt
  refine wl ?_ <;> and_intros <;> first | exact hdT | (apply zM; (repeat intro ht); apply zM; (repeat intro hg); apply zM)
  refine M_forO (X := Nat) rfl [0,1,2,3,4,5,44,49,63] (k + 2) (fun i => [(5, .lit (.int .i64 (i : Int)))]) (fun i => [(k + 1, ⟨7, true, [s.cells]⟩), (k, ⟨7, true, [s.cells]⟩)]) (fun i => i ≤ s.ns) (fun i => s.ns - i) 0 ?_ (Nat.zero_le _) ?_
  · refine rR ?_ <;> first | exact hdT | apply zN
    exact wkF
  intro i hi
  refine rR ?_ <;> first | exact hdT | apply zN
  refine wl ?_ <;> and_intros <;> first | exact hdT | (apply zM; (repeat intro ht); apply zM; (repeat intro hg); apply zM)
  · have hi2 : s.nsp i ≤ 1000 := hnsp i (by omega)
    refine dl [.ret (.lit (.bool true))] ?_ <;> and_intros <;> first | exact hdT | (apply zM; (repeat intro ht); apply zM; (repeat intro hg); apply zM)
    all_goals (try omega)
    · exact sameSpots s i (s.nsp i) hi2
    refine wl ?_ <;> and_intros <;> first | exact hdT | (apply zM; (repeat intro ht); apply zM; (repeat intro hg); apply zM)
    refine ⟨i + 1, by omega, by omega, ?_⟩
    refine rR ?_ <;> first | exact hdT | apply zN
    exact wkF
  · exact C_ret rfl ⟨_, rfl, VLe.refl _⟩
end Go.Proofs.T
end
section
namespace Go.Proofs.T
open Go Go.AM Go.Proofs
set_option maxRecDepth 20000
variable {Γ : List (Nat × List AVal)}
def SmallP (s : St) : Prop := s.cpus ≤ 10 ∧ s.ng ≤ 10 ∧ s.nk ≤ 100 ∧ s.nu ≤ 100 ∧ s.nt ≤ 40 ∧ s.ns ≤ 12 ∧ ∀ g, g < s.ns → s.nsp g ≤ 12
instance (s : St) : Decidable (SmallP s) := by unfold SmallP; infer_instance
def rdep (par : Nat → Int) : Nat → Nat → Nat → Nat
  | 0, _, n => n
  | f + 1, g, n => if g = 0 then n else if par g < 0 ∨ (g : Int) ≤ par g then 5 else rdep par f (par g).toNat (n + 1)
theorem rdep0 (par : Nat → Int) (g n : Nat) : rdep par 0 g n = n := rfl
theorem depth_ref (s : St) (n g : Nat) (hg : g < n) (hn : n ≤ 1000) : Pure Tryz.prog Γ 240 [.rd 2 n (gf s), .lit (.int .i64 (g : Int))] (.lit (.int .i64 (rdep s.par 5 g 0 : Nat))) := by
  refine Pure_at Tryz.func240 rfl 35 rfl (Nat.le_of_ble_eq_true rfl) rfl fun k => ?_
  generalize hD : rdep s.par 5 g 0 = D
  have kp : Kp [0,1,4,5,11,26] (fun i => i - k) := kpI
  refine wl ?_ <;> and_intros <;> first | exact hdT | (apply zM; (repeat intro ht); apply zM; (repeat intro hg); apply zM)
  refine M_forO (X := Nat × Nat) rfl [0,1,4,5,11,26] k (fun x => [(1, .lit (.int .i64 (x.1 : Int))), (5, .lit (.int .i64 (x.2 : Int)))]) (fun x => []) (fun x => x.1 < n ∧ x.2 ≤ 5 ∧ rdep s.par (5 - x.2) x.1 x.2 = D) (fun x => 5 - x.2) (g, 0) ?_ ⟨hg, by omega, hD⟩ ?_
  · refine rR ?_ <;> first | exact hdT | apply zN
    exact wkF
  rintro ⟨h, m⟩ ⟨hh, hm, hr⟩
  simp only at hh hm hr
  refine rR ?_ <;> first | exact hdT | apply zN
  have hstep : ∀ (h0 : 0 < h) (h5 : m < 5), rdep s.par (5 - m) h m = if s.par h < 0 ∨ (h : Int) ≤ s.par h then 5 else rdep s.par (5 - (m + 1)) (s.par h).toNat (m + 1) := fun h0 h5 => by
    have e : 5 - m = (5 - (m + 1)) + 1 := by omega
    rw [e, rdep, if_neg (by omega)]
  refine wl ?_ <;> and_intros <;> first | exact hdT | (apply zM; (repeat intro ht); apply zM; (repeat intro hg); apply zM)
  · refine C_ret rfl ⟨_, rfl, VLe.of_eq ?_⟩
    rw [hstep (by omega) (by omega), if_pos (by omega)] at hr
    rw [← hr]; rfl
  · refine ⟨((s.par h).toNat, m + 1), ⟨by simp only; omega, by simp only; omega, ?_⟩, by simp only; omega, ?_⟩
    · rw [hstep (by omega) (by omega), if_neg (by omega)] at hr
      exact hr
    · have hp : ((s.par h).toNat : Int) = s.par h := by omega
      simp only [hp]
      refine rR ?_ <;> first | exact hdT | apply zN
      exact wkF
  · refine C_ret rfl ⟨_, rfl, VLe.of_eq ?_⟩
    rw [hstep (by omega) (by omega), if_pos (by omega)] at hr
    rw [← hr]; rfl
  · refine C_ret rfl ⟨_, rfl, VLe.of_eq ?_⟩
    have e : m = 5 := by omega
    subst e
    rw [rdep0] at hr
    rw [← hr]
  · refine C_ret rfl ⟨_, rfl, VLe.of_eq ?_⟩
    have e : h = 0 := by omega
    subst e
    have hr' : m = D := by
      cases hm' : 5 - m with
      | zero => rw [hm', rdep0] at hr; exact hr
      | succ q => rw [hm', rdep, if_pos rfl] at hr; exact hr
    rw [← hr']
def okW (s : St) (g : Nat) : Bool := decide (1 ≤ s.wt g ∧ s.wt g ≤ 65536)
def okR (s : St) (g : Nat) : Bool := okW s g && decide (rdep s.par 5 g 0 ≤ 4)
def fb (ok : Nat → Bool) : Nat → Option Nat
  | 0 => none
  | n + 1 => match fb ok n with
    | some g => some g
    | none => if n = 0 ∨ ok n = true then none else some n
theorem fb_none {ok : Nat → Bool} : ∀ {n : Nat}, (∀ g, 1 ≤ g → g < n → ok g = true) → fb ok n = none
  | 0, _ => rfl
  | n + 1, h => by
    rw [fb, fb_none (fun g h1 h2 => h g h1 (by omega))]
    by_cases hn : n = 0
    · simp [hn]
    · simp [h n (by omega) (by omega)]
theorem fb_none_iff {ok : Nat → Bool} : ∀ {n : Nat}, fb ok n = none ↔ ∀ g, 1 ≤ g → g < n → ok g = true
  | 0 => ⟨fun _ g _ hg => by omega, fun _ => rfl⟩
  | n + 1 => by
    refine ⟨fun h g h1 h2 => ?_, fb_none⟩
    rw [fb] at h
    cases hf : fb ok n with
    | some x => rw [hf] at h; cases h
    | none =>
      rw [hf] at h
      by_cases he : g = n
      · subst he
        simp only at h
        split at h
        · rename_i hc; rcases hc with hc | hc
          · omega
          · exact hc
        · cases h
      · exact fb_none_iff.1 hf g h1 (by omega)
theorem fb_some {ok : Nat → Bool} {g : Nat} (h1 : 1 ≤ g) (hall : ∀ j, 1 ≤ j → j < g → ok j = true) (hbad : ok g = false) : ∀ {n : Nat}, g < n → fb ok n = some g
  | 0, h => by omega
  | n + 1, h => by
    rw [fb]
    by_cases he : g = n
    · subst he
      rw [fb_none hall]
      simp [hbad]; omega
    · rw [fb_some h1 hall hbad (by omega)]
def refCfg (s : St) : Bool := decide (1 ≤ s.cpus ∧ s.cpus ≤ 64 ∧ s.credit ≤ 1099511627776 ∧ 1 ≤ s.ng ∧ s.ng ≤ 256 ∧ s.par 0 = 0 ∧ s.wt 0 = 1) && (fb (okR s) s.ng).isNone
theorem rightConfig_ref (s : St) : Pure Tryz.prog Γ 186 [.agg s.cfg] (.lit (.bool (refCfg s))) := by
  refine Pure_at Tryz.func186 rfl 65 rfl (Nat.le_of_ble_eq_true rfl) rfl fun k => ?_
  have kp : Kp [0,1,2,3,28,42,47,64] (fun i => i - k) := kpI
  refine wl ?_ <;> and_intros <;> first | exact hdT | (apply zM; (repeat intro ht); apply zM; (repeat intro hg); apply zM)
  any_goals (refine C_ret rfl ⟨_, rfl, VLe.of_eq ?_⟩; rw [refCfg, decide_eq_false (by omega), Bool.false_and])
  refine M_forO (X := Nat) rfl [0,1,2,3,28,42,47,64] (k + 1) (fun i => [(3, .lit (.int .i64 (i : Int)))]) (fun i => [(k, ⟨3, true, [s.cfg]⟩)]) (fun i => 1 ≤ i ∧ i ≤ s.ng ∧ ∀ g, 1 ≤ g → g < i → okR s g = true) (fun i => s.ng - i) 1 ?_ ⟨by omega, by omega, fun g h1 h2 => by omega⟩ ?_
  · refine rR ?_ <;> first | exact hdT | apply zN
    exact wkF
  rintro i ⟨hi1, hi, hall⟩
  refine rR ?_ <;> first | exact hdT | apply zN
  have hok : okR s i = (okW s i && decide (rdep s.par 5 i 0 ≤ 4)) := rfl
  refine wl ?_ <;> and_intros <;> first | exact hdT | (apply zM; (repeat intro ht); apply zM; (repeat intro hg); apply zM)
  · refine cl [.ret (.lit (.bool (okW s i))), .ret (.lit (.int .i64 (rdep s.par 5 i 0 : Nat)))] ?_ <;> and_intros <;> first | exact hdT | (apply zM; (repeat intro ht); apply zM; (repeat intro hg); apply zM)
    all_goals (try omega)
    · exact weight_ref (s.wt i)
    · exact depth_ref s s.ng i (by omega) (by omega)
    · refine wl ?_ <;> and_intros <;> first | exact hdT | (apply zM; (repeat intro ht); apply zM; (repeat intro hg); apply zM)
      · refine C_ret rfl ⟨_, rfl, VLe.of_eq ?_⟩
        rw [refCfg, fb_some hi1 hall (by rw [hok, decide_eq_false (by omega), Bool.and_false]) (by omega)]
        simp
      · refine ⟨i + 1, ⟨by omega, by omega, fun g h1 h2 => ?_⟩, by omega, ?_⟩
        · by_cases he : g = i
          · subst he; rw [hok, hg, decide_eq_true (by omega)]; rfl
          · exact hall g h1 (by omega)
        · refine rR ?_ <;> first | exact hdT | apply zN
          exact wkF
    · refine wl ?_ <;> and_intros <;> first | exact hdT | (apply zM; (repeat intro ht); apply zM; (repeat intro hg); apply zM)
      refine C_ret rfl ⟨_, rfl, VLe.of_eq ?_⟩
      rw [refCfg, fb_some hi1 hall (by rw [hok, hg, Bool.false_and]) (by omega)]
      simp
  · refine C_ret rfl ⟨_, rfl, VLe.of_eq ?_⟩
    rw [refCfg, fb_none (fun g h1 h2 => hall g h1 (by omega)), decide_eq_true (by omega)]
    rfl
end Go.Proofs.T
end
section
namespace Go.Proofs.T
open Go Go.AM Go.Proofs
set_option maxRecDepth 20000
variable {Γ : List (Nat × List AVal)}
theorem weighsG (w : Int) : Pure Tryz.prog Γ 271 [.lit (.int .i64 w)] (.lit (.bool (decide (1 ≤ w ∧ w ≤ 65536)))) := by
  refine Pure_at Tryz.func271 rfl 9 rfl (Nat.le_of_ble_eq_true rfl) rfl fun k => ?_
  have kp : Kp [0,2] (fun i => i - k) := kpI
  refine wl ?_ <;> and_intros <;> first | exact hdT | (apply zM; (repeat intro ht); apply zM; (repeat intro hg); apply zM)
  all_goals (refine C_ret rfl ⟨_, rfl, VLe.of_eq ?_⟩; (simp only [AVal.lit.injEq, Value.bool.injEq]; rw [Bool.eq_iff_iff]; simp only [beq_iff_eq, bne_iff_ne, ne_eq, decide_eq_true_eq, decide_eq_false_iff_not, Bool.and_eq_true, Bool.or_eq_true, Bool.not_eq_true', beq_eq_false_iff_ne, Bool.false_eq_true, Bool.true_eq_false, true_iff, false_iff, iff_true, iff_false]; omega))
def pdep (par : Nat → Int) : Nat → Nat → Nat
  | 0, _ => 0
  | f + 1, g => if g = 0 then 0 else pdep par f (par g).toNat + 1
def DepthOk (Γ : List (Nat × List AVal)) : Prop := ∀ (s : St) (n g : Nat), g < n → n ≤ 1000 → (∀ j, 1 ≤ j → j ≤ g → 0 ≤ s.par j ∧ s.par j < j) →
  Pure Tryz.prog Γ 272 [.rd 2 n (gf s), .lit (.int .i64 (g : Int))] (.lit (.int .i64 (pdep s.par g g : Nat)))
def okP (s : St) (g : Nat) : Bool := decide (0 ≤ s.par g ∧ s.par g < g)
def okG (s : St) (g : Nat) : Bool := okP s g && (okW s g && decide (pdep s.par g g ≤ 4))
def chkE (s : St) (g : Nat) : Int := if okP s g = false then 191 else if okW s g = false then 192 else 193
def chk (s : St) : Int × Int :=
  if 256 < s.ng then (-1, 5) else if s.ng = 0 ∨ ¬ (s.par 0 = 0 ∧ s.wt 0 = 1) then (0, 190) else match fb (okG s) s.ng with
    | none => (-1, 0)
    | some g => (g, chkE s g)
theorem groupCheck (hD : DepthOk Γ) (s : St) : Pure Tryz.prog Γ 226 [.rd 2 s.ng (gf s)] (.tup [.lit (.int .i64 (chk s).1), .lit (.int .i64 (chk s).2)]) := by
  refine Pure_at Tryz.func226 rfl 58 rfl (Nat.le_of_ble_eq_true rfl) rfl fun k => ?_
  have kp : Kp [0,2,3,4,5,9,23,26,43,52] (fun i => i - k) := kpI
  refine wl ?_ <;> and_intros <;> first | exact hdT | (apply zM; (repeat intro ht); apply zM; (repeat intro hg); apply zM)
  · refine C_ret rfl ⟨_, rfl, VLe.of_eq ?_⟩
    rw [show chk s = (-1, 5) from by rw [chk, if_pos (by omega)]]
  · refine C_ret rfl ⟨_, rfl, VLe.of_eq ?_⟩
    rw [show chk s = (0, 190) from by
      rw [chk, if_neg (by omega), if_pos (.inr (by simpa using ht))]]
  · have hroot : s.par 0 = 0 ∧ s.wt 0 = 1 := by simpa using ht
    have hchk : chk s = match fb (okG s) s.ng with | none => (-1, 0) | some g => ((g : Int), chkE s g) := by
      rw [chk, if_neg (by omega), if_neg (by rintro (h | h); · omega
                                             · exact h hroot)]
    refine M_forO (X := Nat) rfl [0,2,3,4,5,9,23,26,43,52] k (fun i => [(4, .lit (.int .i64 (i : Int)))]) (fun i => []) (fun i => 1 ≤ i ∧ i ≤ s.ng ∧ ∀ g, 1 ≤ g → g < i → okG s g = true) (fun i => s.ng - i) 1 ?_ ⟨by omega, by omega, fun g h1 h2 => by omega⟩ ?_
    · refine rR ?_ <;> first | exact hdT | apply zN
      exact wkF
    rintro i ⟨hi1, hi, hall⟩
    refine rR ?_ <;> first | exact hdT | apply zN
    have hok : okG s i = (okP s i && (okW s i && decide (pdep s.par i i ≤ 4))) := rfl
    have hbad : i < s.ng → okG s i = false → chk s = ((i : Int), chkE s i) := fun h1 h2 => by rw [hchk, fb_some hi1 hall h2 h1]
    refine wl ?_ <;> and_intros <;> first | exact hdT | (apply zM; (repeat intro ht); apply zM; (repeat intro hg); apply zM)
    · refine C_ret rfl ⟨_, rfl, VLe.of_eq ?_⟩
      have hp : okP s i = false := decide_eq_false (by omega)
      rw [hbad (by omega) (by rw [hok, hp]; rfl), chkE, if_pos hp]
    · have hp : okP s i = true := decide_eq_true (by omega)
      refine cl [.ret (.lit (.bool (okW s i)))] ?_ <;> and_intros <;> first | exact hdT | (apply zM; (repeat intro ht); apply zM; (repeat intro hg); apply zM)
      · exact weighsG (s.wt i)
      refine wl ?_ <;> and_intros <;> first | exact hdT | (apply zM; (repeat intro ht); apply zM; (repeat intro hg); apply zM)
      · refine C_ret rfl ⟨_, rfl, VLe.of_eq ?_⟩
        rw [hbad (by omega) (by rw [hok, ht, hp]; rfl), chkE, if_neg (by rw [hp]; simp), if_pos ht]
      · refine cl [.ret (.lit (.int .i64 (pdep s.par i i : Nat)))] ?_ <;> and_intros <;> first | exact hdT | (apply zM; (repeat intro ht); apply zM; (repeat intro hg); apply zM)
        · refine hD s s.ng i (by omega) (by omega) (fun j h1 h2 => ?_)
          by_cases he : j = i
          · subst he; omega
          · have := hall j h1 (by omega)
            simp only [okG, okP, Bool.and_eq_true, decide_eq_true_eq] at this
            exact this.1
        have hw := ht
        refine wl ?_ <;> and_intros <;> first | exact hdT | (apply zM; (repeat intro ht); apply zM; (repeat intro hg); apply zM)
        · refine C_ret rfl ⟨_, rfl, VLe.of_eq ?_⟩
          rw [hbad (by omega) (by rw [hok, hp, hw, decide_eq_false (by omega)]; rfl), chkE, if_neg (by rw [hp]; simp), if_neg (by rw [hw]; simp)]
        · refine ⟨i + 1, ⟨by omega, by omega, fun g h1 h2 => ?_⟩, by omega, ?_⟩
          · by_cases he : g = i
            · subst he; rw [hok, hp, hw, decide_eq_true (by omega)]; rfl
            · exact hall g h1 (by omega)
          · refine rR ?_ <;> first | exact hdT | apply zN
            exact wkF
    · refine C_ret rfl ⟨_, rfl, VLe.of_eq ?_⟩
      have hp : okP s i = false := decide_eq_false (by omega)
      rw [hbad (by omega) (by rw [hok, hp]; rfl), chkE, if_pos hp]
    · refine C_ret rfl ⟨_, rfl, VLe.of_eq ?_⟩
      rw [hchk, fb_none (fun g h1 h2 => hall g h1 (by omega))]
  · refine C_ret rfl ⟨_, rfl, VLe.of_eq ?_⟩
    rw [show chk s = (0, 190) from by rw [chk, if_neg (by omega), if_pos (.inl (by omega))]]
theorem groupRight (hD : DepthOk Γ) (s : St) : Pure Tryz.prog Γ 156 [.rd 2 s.ng (gf s)] (.lit (.bool ((chk s).2 == 0))) := by
  refine Pure_at Tryz.func156 rfl 12 rfl (Nat.le_of_ble_eq_true rfl) rfl fun k => ?_
  have kp : Kp [0,2,4] (fun i => i - k) := kpI
  refine wl ?_ <;> and_intros <;> first | exact hdT | (apply zM; (repeat intro ht); apply zM; (repeat intro hg); apply zM)
  refine cl [.ret (.tup [.lit (.int .i64 (chk s).1), .lit (.int .i64 (chk s).2)])] ?_ <;> and_intros <;> first | exact hdT | (apply zM; (repeat intro ht); apply zM; (repeat intro hg); apply zM)
  · exact groupCheck hD s
  refine wl ?_ <;> and_intros <;> first | exact hdT | (apply zM; (repeat intro ht); apply zM; (repeat intro hg); apply zM)
  refine C_ret rfl ⟨_, rfl, VLe.of_eq ?_⟩
  rfl
def modCfg (s : St) : Bool := decide (1 ≤ s.cpus ∧ s.cpus ≤ 64 ∧ s.credit ≤ 1099511627776) && ((chk s).2 == 0)
theorem rightConfig (hD : DepthOk Γ) (s : St) : Pure Tryz.prog Γ 86 [.agg s.cfg] (.lit (.bool (modCfg s))) := by
  refine Pure_at Tryz.func86 rfl 21 rfl (Nat.le_of_ble_eq_true rfl) rfl fun k => ?_
  have kp : Kp [0,1,2] (fun i => i - k) := kpI
  refine wl ?_ <;> and_intros <;> first | exact hdT | (apply zM; (repeat intro ht); apply zM; (repeat intro hg); apply zM)
  refine cl [.ret (.lit (.bool ((chk s).2 == 0)))] ?_ <;> and_intros <;> first | exact hdT | (apply zM; (repeat intro ht); apply zM; (repeat intro hg); apply zM)
  · exact groupRight hD s
  all_goals (refine C_ret rfl ⟨_, rfl, VLe.of_eq ?_⟩)
  all_goals (first | (rw [modCfg, decide_eq_true (by omega), Bool.true_and]; done) | (rw [modCfg, decide_eq_false (by omega), Bool.false_and]; done) | (rw [modCfg, decide_eq_false (by omega), decide_eq_false (by omega), Bool.false_and]; done) | trace_state)
end Go.Proofs.T
end
