import Derived.Test.YtkiadljldlppbaaGreatDoorZAF
import Derived.Test.YtkiadljldlppbaaGreatDoorProg
import Derived.KernelRfl
set_option linter.unusedVariables false
set_option linter.unusedSimpArgs false
section
namespace Go.AM
theorem drawKF {keep : List Nat} {g : Nat → Nat} (_ : Kp keep g) {ops : Array Oper} {tr : List Foot} {L : List (List Nat × List Nat)} (hL : tr.map (shN g) = L) (h : drawN ops L = true := by decide +kernel) (hm : (tr.all fun f => f.mods.all fun x => decide (x < f.k')) = true := by simp -dsimp -implicitDefEqProofs (disch := omega) only [go_sem, nq0, nq5, ltB_iff, List.map_append, List.map_cons, List.map_nil, eq_self, ↓reduceIte]) : drawOk ops tr = true := drawF g hL h hm
theorem wlL {Q P1 P2 P3 P4 P5 P6 P7 P8 P9 P10 P11 P12 : Prop} (p : Hd P1 ∧ Hd P2 ∧ Hd P3 ∧ Hd P4 ∧ Hd P5 ∧ Hd P6 ∧ Hd P7 ∧ Hd P8 ∧ Hd P9 ∧ Hd P10 ∧ Hd P11 ∧ Hd P12)
    (h : Hd P1 → Hd P2 → Hd P3 → Hd P4 → Hd P5 → Hd P6 → Hd P7 → Hd P8 → Hd P9 → Hd P10 → Hd P11 → Hd P12 → Q := by
  intro a1 a2 a3 a4 a5 a6 a7 a8 a9 a10 a11 a12
  refine two ?_ ?_
  · (repeat' (first | (refine C_seq rfl ?_) | (refine C_block rfl ?_) | (refine C_skip rfl ?_; (try simp -dsimp -implicitDefEqProofs (disch := omega) only [go_sem, nq0, uU, eq_self, ↓reduceIte])) | (refine C_exit rfl ?_; (try simp -dsimp -implicitDefEqProofs (disch := omega) only [go_sem, nq0, uU, eq_self, ↓reduceIte])) | (refine C_cond rfl _ rfl (fun zt => ?_) (fun zt => ?_) <;> (try (simp only [nf] at zt)) <;> (try (exfalso; omega))) | ((first | (refine S_reg0K kp rfl rfl rfl (fun zK hK => ?_)) | (refine S_drw0K kp rfl rfl (by kernel_rfl) rfl (fun zK hK => ?_))); simp -dsimp -implicitDefEqProofs (disch := omega) only [go_sem, nq0, uU, eq_self, ↓reduceIte]; (repeat' (first | (refine And.intro ?_ ?_) | (refine gs_both (fun hb => ?_) (fun hb => ?_) <;> (have zg := hb; (try simp only [nfb] at zg); simp -dsimp -implicitDefEqProofs (disch := omega) only [go_sem, nq0, uU, hb, zg, eq_self, ↓reduceIte]; clear hb; (try simp only [nfe] at zg))))); any_goals ((first | refine hK _ _ _ _ (fun hx => ?_) | refine hK _ _ _ _ (drawKD kp) (fun hx => ?_) | refine hK _ _ _ _ (drawKF kp (by (simp -dsimp (disch := omega) only [List.map_cons, List.map_nil, shN, nq0, nq3, nq4, Nat.add_sub_cancel_left, Nat.sub_self, uU, eq_self, ↓reduceIte]; rfl))) (fun hx => ?_)); clear hx hK; simp -dsimp -implicitDefEqProofs (disch := omega) only [go_sem, nq0, uU, eq_self, ↓reduceIte]; (try simp (disch := omega) only [wrap_i64, wrap_u64, wrap_u32, wrap_u8]))) | omega))
    all_goals (refine Hd.o ?_; (repeat revert zg); refine Hd.o ?_; (repeat revert zt); first | ((fail_if_success (fail_if_success (have zz : Hd Mk := a1))); exact Hd.o a1) | ((fail_if_success (fail_if_success (have zz : Hd Mk := a2))); exact Hd.o a2) | ((fail_if_success (fail_if_success (have zz : Hd Mk := a3))); exact Hd.o a3) | ((fail_if_success (fail_if_success (have zz : Hd Mk := a4))); exact Hd.o a4) | ((fail_if_success (fail_if_success (have zz : Hd Mk := a5))); exact Hd.o a5) | ((fail_if_success (fail_if_success (have zz : Hd Mk := a6))); exact Hd.o a6) | ((fail_if_success (fail_if_success (have zz : Hd Mk := a7))); exact Hd.o a7) | ((fail_if_success (fail_if_success (have zz : Hd Mk := a8))); exact Hd.o a8) | ((fail_if_success (fail_if_success (have zz : Hd Mk := a9))); exact Hd.o a9) | ((fail_if_success (fail_if_success (have zz : Hd Mk := a10))); exact Hd.o a10) | ((fail_if_success (fail_if_success (have zz : Hd Mk := a11))); exact Hd.o a11) | ((fail_if_success (fail_if_success (have zz : Hd Mk := a12))); exact Hd.o a12))
  · (try have zz : Hd True := a1); (try have zz : Hd True := a2); (try have zz : Hd True := a3); (try have zz : Hd True := a4); (try have zz : Hd True := a5); (try have zz : Hd True := a6); (try have zz : Hd True := a7); (try have zz : Hd True := a8); (try have zz : Hd True := a9); (try have zz : Hd True := a10); (try have zz : Hd True := a11); (try have zz : Hd True := a12)
    exact trivial) : Q := h p.1 p.2.1 p.2.2.1 p.2.2.2.1 p.2.2.2.2.1 p.2.2.2.2.2.1 p.2.2.2.2.2.2.1 p.2.2.2.2.2.2.2.1 p.2.2.2.2.2.2.2.2.1 p.2.2.2.2.2.2.2.2.2.1 p.2.2.2.2.2.2.2.2.2.2.1 p.2.2.2.2.2.2.2.2.2.2.2
theorem clL (os : List Orc) {Q P1 P2 P3 P4 P5 P6 P7 P8 P9 P10 P11 P12 : Prop} (p : Hd P1 ∧ Hd P2 ∧ Hd P3 ∧ Hd P4 ∧ Hd P5 ∧ Hd P6 ∧ Hd P7 ∧ Hd P8 ∧ Hd P9 ∧ Hd P10 ∧ Hd P11 ∧ Hd P12)
    (h : Os os → Hd P1 → Hd P2 → Hd P3 → Hd P4 → Hd P5 → Hd P6 → Hd P7 → Hd P8 → Hd P9 → Hd P10 → Hd P11 → Hd P12 → Q := by
  intro oo a1 a2 a3 a4 a5 a6 a7 a8 a9 a10 a11 a12
  refine two ?_ ?_
  · (refine S_regK kp oo rfl rfl (fun zK hK => ?_)); simp -dsimp -implicitDefEqProofs (disch := omega) only [go_sem, nq0, uU, eq_self, ↓reduceIte]; (repeat' (first | (refine And.intro ?_ ?_) | (refine gs_both (fun hb => ?_) (fun hb => ?_) <;> (have zg := hb; (try simp only [nfb] at zg); simp -dsimp -implicitDefEqProofs (disch := omega) only [go_sem, nq0, uU, hb, zg, eq_self, ↓reduceIte]; clear hb; (try simp only [nfe] at zg))))); (any_goals ((refine hK _ _ _ _ (fun hx => ?_)); clear hx hK; simp -dsimp -implicitDefEqProofs (disch := omega) only [go_sem, nq0, uU, eq_self, ↓reduceIte]; (try simp (disch := omega) only [wrap_i64, wrap_u64, wrap_u32, wrap_u8]))); (all_goals (try omega))
    all_goals (refine Hd.o ?_; (repeat revert zg); refine Hd.o ?_; (repeat revert zt); first | ((fail_if_success (fail_if_success (have zz : Hd Mk := a1))); exact Hd.o a1) | ((fail_if_success (fail_if_success (have zz : Hd Mk := a2))); exact Hd.o a2) | ((fail_if_success (fail_if_success (have zz : Hd Mk := a3))); exact Hd.o a3) | ((fail_if_success (fail_if_success (have zz : Hd Mk := a4))); exact Hd.o a4) | ((fail_if_success (fail_if_success (have zz : Hd Mk := a5))); exact Hd.o a5) | ((fail_if_success (fail_if_success (have zz : Hd Mk := a6))); exact Hd.o a6) | ((fail_if_success (fail_if_success (have zz : Hd Mk := a7))); exact Hd.o a7) | ((fail_if_success (fail_if_success (have zz : Hd Mk := a8))); exact Hd.o a8) | ((fail_if_success (fail_if_success (have zz : Hd Mk := a9))); exact Hd.o a9) | ((fail_if_success (fail_if_success (have zz : Hd Mk := a10))); exact Hd.o a10) | ((fail_if_success (fail_if_success (have zz : Hd Mk := a11))); exact Hd.o a11) | ((fail_if_success (fail_if_success (have zz : Hd Mk := a12))); exact Hd.o a12))
  · (try have zz : Hd True := a1); (try have zz : Hd True := a2); (try have zz : Hd True := a3); (try have zz : Hd True := a4); (try have zz : Hd True := a5); (try have zz : Hd True := a6); (try have zz : Hd True := a7); (try have zz : Hd True := a8); (try have zz : Hd True := a9); (try have zz : Hd True := a10); (try have zz : Hd True := a11); (try have zz : Hd True := a12)
    exact trivial) : Q := h ⟨⟩ p.1 p.2.1 p.2.2.1 p.2.2.2.1 p.2.2.2.2.1 p.2.2.2.2.2.1 p.2.2.2.2.2.2.1 p.2.2.2.2.2.2.2.1 p.2.2.2.2.2.2.2.2.1 p.2.2.2.2.2.2.2.2.2.1 p.2.2.2.2.2.2.2.2.2.2.1 p.2.2.2.2.2.2.2.2.2.2.2
theorem dlL (os : List Orc) {Q P1 P2 P3 P4 P5 P6 P7 P8 P9 P10 P11 P12 : Prop} (p : Hd P1 ∧ Hd P2 ∧ Hd P3 ∧ Hd P4 ∧ Hd P5 ∧ Hd P6 ∧ Hd P7 ∧ Hd P8 ∧ Hd P9 ∧ Hd P10 ∧ Hd P11 ∧ Hd P12)
    (h : Os os → Hd P1 → Hd P2 → Hd P3 → Hd P4 → Hd P5 → Hd P6 → Hd P7 → Hd P8 → Hd P9 → Hd P10 → Hd P11 → Hd P12 → Q := by
  intro oo a1 a2 a3 a4 a5 a6 a7 a8 a9 a10 a11 a12
  refine two ?_ ?_
  · (refine S_drwK kp oo rfl (by kernel_rfl) rfl (fun zK hK => ?_)); simp -dsimp -implicitDefEqProofs (disch := omega) only [go_sem, nq0, uU, eq_self, ↓reduceIte]; (repeat' (first | (refine And.intro ?_ ?_) | (refine gs_both (fun hb => ?_) (fun hb => ?_) <;> (have zg := hb; (try simp only [nfb] at zg); simp -dsimp -implicitDefEqProofs (disch := omega) only [go_sem, nq0, uU, hb, zg, eq_self, ↓reduceIte]; clear hb; (try simp only [nfe] at zg))))); (any_goals ((first | refine hK _ _ _ _ (drawKD kp) (fun hx => ?_) | refine hK _ _ _ _ (drawKF kp (by (simp -dsimp (disch := omega) only [List.map_cons, List.map_nil, shN, nq0, nq3, nq4, Nat.add_sub_cancel_left, Nat.sub_self, uU, eq_self, ↓reduceIte]; rfl))) (fun hx => ?_)); clear hx hK; simp -dsimp -implicitDefEqProofs (disch := omega) only [go_sem, nq0, uU, eq_self, ↓reduceIte]; (try simp (disch := omega) only [wrap_i64, wrap_u64, wrap_u32, wrap_u8]))); (all_goals (try omega))
    all_goals (refine Hd.o ?_; (repeat revert zg); refine Hd.o ?_; (repeat revert zt); first | ((fail_if_success (fail_if_success (have zz : Hd Mk := a1))); exact Hd.o a1) | ((fail_if_success (fail_if_success (have zz : Hd Mk := a2))); exact Hd.o a2) | ((fail_if_success (fail_if_success (have zz : Hd Mk := a3))); exact Hd.o a3) | ((fail_if_success (fail_if_success (have zz : Hd Mk := a4))); exact Hd.o a4) | ((fail_if_success (fail_if_success (have zz : Hd Mk := a5))); exact Hd.o a5) | ((fail_if_success (fail_if_success (have zz : Hd Mk := a6))); exact Hd.o a6) | ((fail_if_success (fail_if_success (have zz : Hd Mk := a7))); exact Hd.o a7) | ((fail_if_success (fail_if_success (have zz : Hd Mk := a8))); exact Hd.o a8) | ((fail_if_success (fail_if_success (have zz : Hd Mk := a9))); exact Hd.o a9) | ((fail_if_success (fail_if_success (have zz : Hd Mk := a10))); exact Hd.o a10) | ((fail_if_success (fail_if_success (have zz : Hd Mk := a11))); exact Hd.o a11) | ((fail_if_success (fail_if_success (have zz : Hd Mk := a12))); exact Hd.o a12))
  · (try have zz : Hd True := a1); (try have zz : Hd True := a2); (try have zz : Hd True := a3); (try have zz : Hd True := a4); (try have zz : Hd True := a5); (try have zz : Hd True := a6); (try have zz : Hd True := a7); (try have zz : Hd True := a8); (try have zz : Hd True := a9); (try have zz : Hd True := a10); (try have zz : Hd True := a11); (try have zz : Hd True := a12)
    exact trivial) : Q := h ⟨⟩ p.1 p.2.1 p.2.2.1 p.2.2.2.1 p.2.2.2.2.1 p.2.2.2.2.2.1 p.2.2.2.2.2.2.1 p.2.2.2.2.2.2.2.1 p.2.2.2.2.2.2.2.2.1 p.2.2.2.2.2.2.2.2.2.1 p.2.2.2.2.2.2.2.2.2.2.1 p.2.2.2.2.2.2.2.2.2.2.2
theorem rRL {A B : Prop} (b : Hd B) (h : Hd B → A := by
  intro b1
  refine two ?_ ?_
  · (simp -dsimp -implicitDefEqProofs (disch := omega) only [go_sem, nq0, uU, eq_self, ↓reduceIte]) <;> exact Hd.o (Hd.o b1)
  · (try have zz : Hd True := b1)
    exact trivial) : A := h b
end Go.AM
end
section
namespace Go.AM
open Go.Proofs
set_option maxRecDepth 100000
@[go_sem] theorem yC0 : arr Tryz.prog 27 = none ∧ callable Tryz.prog 9 = true ∧ callable Tryz.prog 10 = true ∧ tagg Tryz.prog 27 = some true ∧ tsz Tryz.prog 27 = some 13 ∧ callable Tryz.prog 12 = true ∧ callable Tryz.prog 11 = true ∧ refT Tryz.prog 32 = some 0 ∧ callable Tryz.prog 13 = true ∧ zcells Tryz.prog 45 = some [AVal.lit (Value.int IntKind.i64 0), AVal.lit (Value.int IntKind.u64 0), AVal.lit (Value.slice none 0 0), AVal.lit (Value.slice none 0 0), AVal.lit (Value.slice none 0 0), AVal.lit (Value.slice none 0 0), AVal.lit (Value.slice none 0 0)] ∧ arr Tryz.prog 45 = none ∧ tsz Tryz.prog 45 = some 7 ∧ tagg Tryz.prog 45 = some true ∧ isSliceT Tryz.prog 30 = true ∧ esz Tryz.prog 30 = some 8 ∧ tagg Tryz.prog 49 = some true ∧ tsz Tryz.prog 49 = some 8 ∧ zcells Tryz.prog 49 = some [AVal.lit (Value.int IntKind.u8 0), AVal.lit (Value.int IntKind.i64 0), AVal.lit (Value.int IntKind.i64 0), AVal.lit (Value.int IntKind.i64 0), AVal.lit (Value.int IntKind.i64 0), AVal.lit (Value.int IntKind.i64 0), AVal.lit (Value.int IntKind.i64 0), AVal.lit (Value.int IntKind.u64 0)] ∧ arr Tryz.prog 49 = none ∧ callable Tryz.prog 14 = true ∧ isSliceT Tryz.prog 52 = true ∧ ikind Tryz.prog 5 = some IntKind.u8 ∧ ikind Tryz.prog 3 = some IntKind.i64 ∧ isStrT Tryz.prog 3 = false ∧ isSliceT Tryz.prog 28 = true := by and_intros <;> kernel_rfl
@[go_sem] theorem yC1 : esz Tryz.prog 28 = some 8 ∧ callable Tryz.prog 16 = true ∧ fieldOff Tryz.prog 45 1 = some 3 ∧ tagg Tryz.prog 41 = some false ∧ tsz Tryz.prog 41 = some 1 ∧ isSliceT Tryz.prog 41 = true ∧ esz Tryz.prog 41 = some 1 ∧ tagg Tryz.prog 3 = some false ∧ tsz Tryz.prog 3 = some 1 ∧ zcells Tryz.prog 59 = some [AVal.lit (Value.int IntKind.u8 0), AVal.lit (Value.int IntKind.i64 0), AVal.lit (Value.int IntKind.i64 0)] ∧ isStructT Tryz.prog 59 = true ∧ fieldOff Tryz.prog 45 4 = some 6 ∧ tagg Tryz.prog 43 = some false ∧ tsz Tryz.prog 43 = some 1 ∧ isSliceT Tryz.prog 43 = true ∧ esz Tryz.prog 43 = some 1 ∧ tagg Tryz.prog 60 = some false ∧ tsz Tryz.prog 60 = some 1 ∧ isSliceT Tryz.prog 60 = true ∧ esz Tryz.prog 60 = some 3 ∧ fieldOff Tryz.prog 62 2 = some 2 ∧ tagg Tryz.prog 36 = some false ∧ tsz Tryz.prog 36 = some 1 ∧ esz Tryz.prog 52 = some 3 ∧ tagg Tryz.prog 59 = some true := by and_intros <;> kernel_rfl
@[go_sem] theorem yC2 : tsz Tryz.prog 59 = some 3 ∧ arr Tryz.prog 59 = none ∧ fieldOff Tryz.prog 45 3 = some 5 ∧ tagg Tryz.prog 42 = some false ∧ tsz Tryz.prog 42 = some 1 ∧ isSliceT Tryz.prog 42 = true ∧ fieldOff Tryz.prog 45 2 = some 4 ∧ fieldOff Tryz.prog 59 0 = some 0 ∧ tsz Tryz.prog 5 = some 1 ∧ callable Tryz.prog 20 = true ∧ callable Tryz.prog 19 = true ∧ callable Tryz.prog 18 = true ∧ esz Tryz.prog 42 = some 8 ∧ fieldOff Tryz.prog 59 1 = some 1 ∧ fieldOff Tryz.prog 70 4 = some 4 ∧ fieldOff Tryz.prog 70 3 = some 3 ∧ fieldOff Tryz.prog 70 2 = some 2 ∧ ikind Tryz.prog 22 = some IntKind.u32 ∧ isStrT Tryz.prog 22 = false ∧ fieldOff Tryz.prog 70 7 = some 7 ∧ tsz Tryz.prog 22 = some 1 ∧ fieldOff Tryz.prog 62 0 = some 0 ∧ fieldOff Tryz.prog 70 6 = some 6 ∧ fieldOff Tryz.prog 70 5 = some 5 ∧ tagg Tryz.prog 4 = some false := by and_intros <;> kernel_rfl
@[go_sem] theorem yC3 : tsz Tryz.prog 4 = some 1 ∧ tagg Tryz.prog 70 = some true ∧ tsz Tryz.prog 70 = some 8 ∧ zcells Tryz.prog 70 = some [AVal.lit (Value.int IntKind.i64 0), AVal.lit (Value.int IntKind.i64 0), AVal.lit (Value.int IntKind.i64 0), AVal.lit (Value.int IntKind.i64 0), AVal.lit (Value.int IntKind.u64 0), AVal.lit (Value.bool false), AVal.lit (Value.int IntKind.u64 0), AVal.lit (Value.int IntKind.u32 0)] ∧ arr Tryz.prog 70 = none ∧ fieldOff Tryz.prog 70 1 = some 1 ∧ fieldOff Tryz.prog 45 0 = some 0 ∧ fieldOff Tryz.prog 39 2 = some 2 ∧ tagg Tryz.prog 37 = some false ∧ tsz Tryz.prog 37 = some 1 ∧ isSliceT Tryz.prog 37 = true ∧ esz Tryz.prog 37 = some 2 ∧ tagg Tryz.prog 72 = some true ∧ tsz Tryz.prog 72 = some 2 ∧ zcells Tryz.prog 72 = some [AVal.lit (Value.int IntKind.i64 0), AVal.lit (Value.int IntKind.i64 0)] ∧ arr Tryz.prog 72 = none ∧ fieldOff Tryz.prog 72 0 = some 0 ∧ fieldOff Tryz.prog 39 0 = some 0 ∧ fieldOff Tryz.prog 39 1 = some 1 ∧ isStructT Tryz.prog 45 = true ∧ fieldOff Tryz.prog 72 1 = some 1 ∧ callable Tryz.prog 25 = true ∧ tagg Tryz.prog 5 = some false ∧ isStructT Tryz.prog 70 = true ∧ tagg Tryz.prog 88 = some true := by and_intros <;> kernel_rfl
@[go_sem] theorem yC4 : tsz Tryz.prog 88 = some 8 ∧ zcells Tryz.prog 88 = some [AVal.lit (Value.int IntKind.u8 0), AVal.lit (Value.int IntKind.u8 0), AVal.lit (Value.int IntKind.u8 0), AVal.lit (Value.int IntKind.u8 0), AVal.lit (Value.int IntKind.u8 0), AVal.lit (Value.int IntKind.u16 0), AVal.lit (Value.int IntKind.u32 0), AVal.lit (Value.int IntKind.u8 0)] ∧ arr Tryz.prog 88 = none ∧ fieldOff Tryz.prog 88 1 = some 1 ∧ fieldOff Tryz.prog 88 2 = some 2 ∧ fieldOff Tryz.prog 88 3 = some 3 ∧ fieldOff Tryz.prog 88 4 = some 4 ∧ fieldOff Tryz.prog 88 5 = some 5 ∧ tagg Tryz.prog 24 = some false ∧ tsz Tryz.prog 24 = some 1 ∧ ikind Tryz.prog 24 = some IntKind.u16 ∧ fieldOff Tryz.prog 88 6 = some 6 ∧ tagg Tryz.prog 22 = some false ∧ fieldOff Tryz.prog 88 7 = some 7 ∧ ikind Tryz.prog 36 = some IntKind.u64 ∧ isStrT Tryz.prog 36 = false ∧ isStructT Tryz.prog 49 = true ∧ fieldOff Tryz.prog 49 5 = some 5 ∧ fieldOff Tryz.prog 49 7 = some 7 ∧ fieldOff Tryz.prog 49 1 = some 1 ∧ zcells Tryz.prog 89 = some [AVal.lit (Value.int IntKind.u8 0), AVal.lit (Value.int IntKind.u8 0), AVal.lit (Value.int IntKind.u8 0), AVal.lit (Value.int IntKind.u8 0), AVal.lit (Value.int IntKind.u8 0), AVal.lit (Value.int IntKind.u8 0), AVal.lit (Value.int IntKind.u8 0), AVal.lit (Value.int IntKind.u8 0), AVal.lit (Value.int IntKind.u8 0), AVal.lit (Value.int IntKind.u8 0), AVal.lit (Value.int IntKind.u8 0), AVal.lit (Value.int IntKind.u8 0), AVal.lit (Value.int IntKind.u8 0), AVal.lit (Value.int IntKind.u8 0), AVal.lit (Value.int IntKind.u8 0), AVal.lit (Value.int IntKind.u8 0), AVal.lit (Value.int IntKind.u8 0), AVal.lit (Value.int IntKind.u8 0), AVal.lit (Value.int IntKind.u8 0), AVal.lit (Value.int IntKind.u8 0)] ∧ isStructT Tryz.prog 89 = false ∧ arrE Tryz.prog 89 = some (20, 1, false) ∧ fieldOff Tryz.prog 88 0 = some 0 ∧ fieldOff Tryz.prog 49 0 = some 0 := by and_intros <;> kernel_rfl
@[go_sem] theorem yC5 : arr Tryz.prog 39 = none ∧ tagg Tryz.prog 39 = some true ∧ tsz Tryz.prog 39 = some 3 ∧ callable Tryz.prog 29 = true ∧ ezero Tryz.prog 60 = some (3, 24, [AVal.lit (Value.int IntKind.u64 0), AVal.lit (Value.int IntKind.u32 0), AVal.lit (Value.int IntKind.u64 0)]) ∧ ezero Tryz.prog 43 = some (1, 24, [AVal.lit (Value.slice none 0 0)]) ∧ callable Tryz.prog 30 = true ∧ zcells Tryz.prog 92 = some [AVal.lit (Value.int IntKind.i64 0), AVal.lit (Value.int IntKind.u64 0), AVal.lit (Value.slice none 0 0), AVal.lit (Value.slice none 0 0), AVal.lit (Value.slice none 0 0), AVal.lit (Value.slice none 0 0), AVal.lit (Value.slice none 0 0), AVal.lit (Value.bool false)] ∧ isStructT Tryz.prog 92 = true ∧ arr Tryz.prog 92 = none ∧ zcells Tryz.prog 39 = some [AVal.lit (Value.int IntKind.i64 0), AVal.lit (Value.int IntKind.u64 0), AVal.lit (Value.slice none 0 0)] ∧ fieldOff Tryz.prog 27 0 = some 0 ∧ fieldOff Tryz.prog 27 2 = some 2 ∧ isStructT Tryz.prog 72 = true ∧ ezero Tryz.prog 37 = some (2, 16, [AVal.lit (Value.int IntKind.i64 0), AVal.lit (Value.int IntKind.i64 0)]) ∧ isStructT Tryz.prog 39 = true ∧ fieldOff Tryz.prog 27 1 = some 1 ∧ fieldOff Tryz.prog 27 3 = some 3 ∧ arr Tryz.prog 23 = some (5, 1) ∧ fieldOff Tryz.prog 27 4 = some 8 ∧ arr Tryz.prog 25 = some (5, 1) ∧ fieldOff Tryz.prog 92 1 = some 7 ∧ fieldOff Tryz.prog 92 0 = some 0 ∧ ezero Tryz.prog 93 = some (1, 8, [AVal.lit Value.nilFunc]) ∧ isSliceT Tryz.prog 93 = true := by and_intros <;> kernel_rfl
@[go_sem] theorem yC6 : esz Tryz.prog 93 = some 1 ∧ tagg Tryz.prog 51 = some false ∧ tsz Tryz.prog 51 = some 1 ∧ callable Tryz.prog 40 = true ∧ zcells Tryz.prog 98 = some [AVal.lit (Value.int IntKind.i64 0), AVal.lit (Value.int IntKind.u64 0), AVal.lit (Value.slice none 0 0), AVal.lit (Value.slice none 0 0), AVal.lit (Value.slice none 0 0), AVal.lit (Value.slice none 0 0), AVal.lit (Value.slice none 0 0), AVal.lit (Value.slice none 0 0)] ∧ isStructT Tryz.prog 98 = true ∧ arr Tryz.prog 98 = none ∧ callable Tryz.prog 43 = true ∧ tagg Tryz.prog 62 = some true ∧ tsz Tryz.prog 62 = some 3 ∧ zcells Tryz.prog 62 = some [AVal.lit (Value.int IntKind.u64 0), AVal.lit (Value.int IntKind.u32 0), AVal.lit (Value.int IntKind.u64 0)] ∧ arr Tryz.prog 62 = none ∧ callable Tryz.prog 44 = true ∧ isSliceT Tryz.prog 65 = true ∧ esz Tryz.prog 65 = some 1 ∧ tagg Tryz.prog 9 = some false ∧ tsz Tryz.prog 9 = some 1 ∧ callable Tryz.prog 45 = true ∧ ezero Tryz.prog 102 = some (1, 8, [AVal.lit Value.nilFunc]) ∧ callable Tryz.prog 46 = true ∧ callable Tryz.prog 47 = true ∧ callable Tryz.prog 48 = true ∧ callable Tryz.prog 49 = true ∧ zcells Tryz.prog 103 = some [AVal.lit (Value.slice none 0 0), AVal.lit (Value.slice none 0 0), AVal.lit (Value.slice none 0 0)] ∧ isStructT Tryz.prog 103 = false := by and_intros <;> kernel_rfl
@[go_sem] theorem yC7 : arrE Tryz.prog 103 = some (3, 1, false) ∧ arr Tryz.prog 103 = some (3, 1) ∧ tsz Tryz.prog 103 = some 3 ∧ tagg Tryz.prog 103 = some true ∧ isSliceT Tryz.prog 102 = true ∧ esz Tryz.prog 102 = some 1 ∧ tagg Tryz.prog 101 = some false ∧ tsz Tryz.prog 101 = some 1 ∧ fieldOff Tryz.prog 98 1 = some 7 ∧ tagg Tryz.prog 52 = some false ∧ tsz Tryz.prog 52 = some 1 ∧ callable Tryz.prog 53 = true ∧ callable Tryz.prog 54 = true ∧ zcells Tryz.prog 108 = some [AVal.lit (Value.int IntKind.u64 0), AVal.lit (Value.int IntKind.u64 0), AVal.lit (Value.int IntKind.u64 0)] ∧ arr Tryz.prog 108 = some (3, 1) ∧ tsz Tryz.prog 108 = some 3 ∧ tagg Tryz.prog 108 = some true ∧ callable Tryz.prog 55 = true ∧ fieldOff Tryz.prog 70 0 = some 0 ∧ fieldOff Tryz.prog 62 1 = some 1 ∧ callable Tryz.prog 60 = true ∧ callable Tryz.prog 61 = true ∧ callable Tryz.prog 62 = true ∧ callable Tryz.prog 63 = true ∧ callable Tryz.prog 64 = true := by and_intros <;> kernel_rfl
@[go_sem] theorem yC8 : callable Tryz.prog 65 = true ∧ fieldOff Tryz.prog 49 2 = some 2 ∧ callable Tryz.prog 66 = true ∧ fieldOff Tryz.prog 49 3 = some 3 ∧ fieldOff Tryz.prog 49 4 = some 4 ∧ callable Tryz.prog 67 = true ∧ callable Tryz.prog 68 = true ∧ callable Tryz.prog 69 = true ∧ callable Tryz.prog 70 = true ∧ zcells Tryz.prog 129 = some [AVal.lit (Value.int IntKind.u64 0), AVal.lit (Value.int IntKind.u32 0), AVal.lit (Value.int IntKind.u32 0)] ∧ arr Tryz.prog 129 = none ∧ tsz Tryz.prog 129 = some 3 ∧ tagg Tryz.prog 129 = some true ∧ callable Tryz.prog 71 = true ∧ callable Tryz.prog 73 = true ∧ callable Tryz.prog 72 = true ∧ callable Tryz.prog 74 = true ∧ callable Tryz.prog 75 = true ∧ callable Tryz.prog 77 = true ∧ callable Tryz.prog 76 = true ∧ callable Tryz.prog 78 = true ∧ fieldOff Tryz.prog 49 6 = some 6 ∧ callable Tryz.prog 79 = true ∧ fieldOff Tryz.prog 129 0 = some 0 ∧ fieldOff Tryz.prog 129 1 = some 1 := by and_intros <;> kernel_rfl
@[go_sem] theorem yC9 : callable Tryz.prog 81 = true ∧ callable Tryz.prog 83 = true ∧ callable Tryz.prog 84 = true ∧ callable Tryz.prog 85 = true ∧ fieldOff Tryz.prog 98 0 = some 0 ∧ zcells Tryz.prog 3 = some [AVal.lit (Value.int IntKind.i64 0)] ∧ arr Tryz.prog 3 = none ∧ callable Tryz.prog 87 = true ∧ callable Tryz.prog 88 = true ∧ callable Tryz.prog 89 = true ∧ ezero Tryz.prog 148 = some (1, 8, [AVal.lit (Value.pointer none)]) ∧ zcells Tryz.prog 148 = some [AVal.lit (Value.slice none 0 0)] ∧ arr Tryz.prog 148 = none ∧ tsz Tryz.prog 148 = some 1 ∧ callable Tryz.prog 90 = true ∧ tagg Tryz.prog 148 = some false ∧ isSliceT Tryz.prog 148 = true ∧ esz Tryz.prog 148 = some 1 ∧ tagg Tryz.prog 149 = some false ∧ tsz Tryz.prog 149 = some 1 ∧ refT Tryz.prog 149 = some 0 ∧ callable Tryz.prog 93 = true ∧ callable Tryz.prog 95 = true ∧ callable Tryz.prog 96 = true ∧ isStructT Tryz.prog 108 = false := by and_intros <;> kernel_rfl
@[go_sem] theorem yC10 : arrE Tryz.prog 108 = some (3, 1, false) ∧ zcells Tryz.prog 4 = some [AVal.lit (Value.bool false)] ∧ arr Tryz.prog 4 = none ∧ callable Tryz.prog 98 = true ∧ callable Tryz.prog 105 = true ∧ refT Tryz.prog 37 = some 1 ∧ refT Tryz.prog 41 = some 1 ∧ refT Tryz.prog 42 = some 1 ∧ refT Tryz.prog 60 = some 1 ∧ isStructT Tryz.prog 129 = true ∧ fieldOff Tryz.prog 129 2 = some 2 ∧ callable Tryz.prog 108 = true ∧ callable Tryz.prog 109 = true ∧ callable Tryz.prog 110 = true ∧ callable Tryz.prog 111 = true ∧ callable Tryz.prog 112 = true ∧ callable Tryz.prog 113 = true ∧ ikind Tryz.prog 164 = some IntKind.u64 ∧ isStrT Tryz.prog 164 = false ∧ arr Tryz.prog 36 = none ∧ callable Tryz.prog 97 = true ∧ callable Tryz.prog 117 = true ∧ callable Tryz.prog 99 = true ∧ isSliceT Tryz.prog 159 = true ∧ esz Tryz.prog 159 = some 1 := by and_intros <;> kernel_rfl
@[go_sem] theorem yC11 : callable Tryz.prog 118 = true ∧ eqOffs Tryz.prog 72 = some [(0, 0), (1, 0)] ∧ callable Tryz.prog 128 = true ∧ callable Tryz.prog 129 = true ∧ callable Tryz.prog 131 = true ∧ callable Tryz.prog 142 = true ∧ Tryz.f12.results.toList = [.cell 2 39] ∧ Tryz.f13.results.toList = [.cell 2 45, .tmp 3] ∧ Tryz.f16.results.toList = [.cell 6 45, .tmp 7] ∧ Tryz.f30.results.toList = [.cell 2 45] ∧ Tryz.f54.results.toList = [.cell 6 108, .tmp 7] ∧ Tryz.f70.results.toList = [.cell 4 129, .tmp 5] ∧ Tryz.f76.results.toList = [.cell 6 129, .tmp 7] ∧ Tryz.f77.results.toList = [.cell 6 129] ∧ Tryz.f79.results.toList = [.cell 4 129, .tmp 5] ∧ Tryz.f81.results.toList = [.cell 4 129, .tmp 5] ∧ Tryz.f110.results.toList = [.cell 4 129] ∧ Tryz.f113.results.toList = [.cell 6 129, .tmp 7] := by and_intros <;> kernel_rfl
@[go_sem] theorem y1 : placesOf Tryz.prog 59 = some { toList := [(0, 1), (1, 1), (2, 1)] } := by kernel_rfl
@[go_sem] theorem y2 : ezero Tryz.prog 52 = some (3, 24, [AVal.lit (Value.int IntKind.u8 0), AVal.lit (Value.int IntKind.i64 0), AVal.lit (Value.int IntKind.i64 0)]) := by kernel_rfl
@[go_sem] theorem ap_52 {H0 : Heap} {k id : Nat} {l : List (List AVal)} {y : Option AVal} (hin : accIn H0 id 3 l) (hid : id < k) : aAppend Tryz.prog (AM.look H0) k 52 (some (accV id l)) y = appR 3 24 k id l (y.bind (aSrc (AM.look H0))) := app_acc y2 hin hid
@[go_sem] theorem ln_52 {H0 : Heap} {k id : Nat} {l : List (List AVal)} (hin : accIn H0 id 3 l) : lenO Tryz.prog (AM.look H0) k 52 (some (accV id l)) = some ⟨.lit (.int .i64 (l.length : Int)), k, [], accRds id l⟩ := len_acc (by kernel_rfl) hin
@[go_sem] theorem y3 : ezero Tryz.prog 41 = some (1, 8, [AVal.lit (Value.int IntKind.i64 0)]) := by kernel_rfl
@[go_sem] theorem y4 : placesOf Tryz.prog 45 = some { toList := [(0, 3), (3, 1), (4, 1), (5, 1), (6, 1)] } := by kernel_rfl
@[go_sem] theorem y5 : ezero Tryz.prog 65 = some (1, 16, [AVal.lit (Value.string { data := { toList := [] } })]) := by kernel_rfl
@[go_sem] theorem y6 : placesOf Tryz.prog 70 = some { toList := [(0, 1), (1, 1), (2, 1), (3, 1), (4, 1), (5, 1), (6, 1), (7, 1)] } := by kernel_rfl
@[go_sem] theorem y7 : ezero Tryz.prog 42 = some (8, 64, [AVal.lit (Value.int IntKind.i64 0), AVal.lit (Value.int IntKind.i64 0), AVal.lit (Value.int IntKind.i64 0), AVal.lit (Value.int IntKind.i64 0), AVal.lit (Value.int IntKind.u64 0), AVal.lit (Value.bool false), AVal.lit (Value.int IntKind.u64 0), AVal.lit (Value.int IntKind.u32 0)]) := by kernel_rfl
@[go_sem] theorem y8 : placesOf Tryz.prog 49 = some { toList := [(0, 1), (1, 1), (2, 1), (3, 1), (4, 1), (5, 1), (6, 1), (7, 1)] } := by kernel_rfl
@[go_sem] theorem y9 : ezero Tryz.prog 30 = some (8, 64, [AVal.lit (Value.int IntKind.u8 0), AVal.lit (Value.int IntKind.i64 0), AVal.lit (Value.int IntKind.i64 0), AVal.lit (Value.int IntKind.i64 0), AVal.lit (Value.int IntKind.i64 0), AVal.lit (Value.int IntKind.i64 0), AVal.lit (Value.int IntKind.i64 0), AVal.lit (Value.int IntKind.u64 0)]) := by kernel_rfl
@[go_sem] theorem ap_30 {H0 : Heap} {k id : Nat} {l : List (List AVal)} {y : Option AVal} (hin : accIn H0 id 8 l) (hid : id < k) : aAppend Tryz.prog (AM.look H0) k 30 (some (accV id l)) y = appR 8 64 k id l (y.bind (aSrc (AM.look H0))) := app_acc y9 hin hid
@[go_sem] theorem y10 : placesOf Tryz.prog 92 = some { toList := [(0, 7), (7, 1)] } := by kernel_rfl
@[go_sem] theorem y11 : placesOf Tryz.prog 72 = some { toList := [(0, 1), (1, 1)] } := by kernel_rfl
@[go_sem] theorem y12 : placesOf Tryz.prog 39 = some { toList := [(0, 1), (1, 1), (2, 1)] } := by kernel_rfl
@[go_sem] theorem y13 : callable Tryz.prog 31 = true := by kernel_rfl
@[go_sem] theorem y14 : callable Tryz.prog 32 = true := by kernel_rfl
@[go_sem] theorem y15 : callable Tryz.prog 33 = true := by kernel_rfl
@[go_sem] theorem y16 : callable Tryz.prog 34 = true := by kernel_rfl
@[go_sem] theorem y17 : callable Tryz.prog 35 = true := by kernel_rfl
@[go_sem] theorem y18 : callable Tryz.prog 36 = true := by kernel_rfl
@[go_sem] theorem y19 : callable Tryz.prog 37 = true := by kernel_rfl
@[go_sem] theorem y20 : callable Tryz.prog 38 = true := by kernel_rfl
@[go_sem] theorem y21 : callable Tryz.prog 39 = true := by kernel_rfl
@[go_sem] theorem y22 : placesOf Tryz.prog 98 = some { toList := [(0, 7), (7, 1)] } := by kernel_rfl
@[go_sem] theorem y23 : placesOf Tryz.prog 129 = some { toList := [(0, 1), (1, 1), (2, 1)] } := by kernel_rfl
end Go.AM
end
section
namespace Go.Proofs.T
open Go Go.AM Go.Proofs
set_option maxRecDepth 20000
variable {Γ : List (Nat × List AVal)}
theorem weighs (w : Int) : Pure Tryz.prog Γ 111 [.lit (.int .i64 w)] (.lit (.bool (decide (1 ≤ w ∧ w ≤ 65536)))) := by
  refine Pure_at Tryz.func111 rfl 9 rfl (Nat.le_of_ble_eq_true rfl) rfl fun k => ?_
  refine C_seq rfl ?_
  refine S_reg rfl [0,2] [] rfl (fun K hK => ?_); simp -dsimp -implicitDefEqProofs only [go_sem, eq_self, ↓reduceIte]; (refine hK _ _ _ _ (fun hx => ?_)); clear hx hK; simp -dsimp -implicitDefEqProofs only [go_sem, eq_self, ↓reduceIte]
  refine C_seq rfl ?_
  refine S_reg rfl [0,2] [] rfl (fun K hK => ?_); simp -dsimp -implicitDefEqProofs only [go_sem, eq_self, ↓reduceIte]; (repeat' (refine gs_both (fun hg => ?_) (fun hg => ?_) <;> simp only [decide_eq_true_eq, decide_eq_false_iff_not, Bool.not_eq_true', Bool.not_eq_false'] at hg <;> simp -dsimp -implicitDefEqProofs only [go_sem, hg, eq_self, ↓reduceIte])); all_goals ((refine hK _ _ _ _ (fun hx => ?_)); clear hx hK; simp -dsimp -implicitDefEqProofs only [go_sem, eq_self, ↓reduceIte])
  all_goals (refine C_ret rfl ⟨_, rfl, VLe.of_eq ?_⟩)
  all_goals ((simp only [AVal.lit.injEq, Value.bool.injEq]; rw [Bool.eq_iff_iff]; simp only [beq_iff_eq, bne_iff_ne, ne_eq, decide_eq_true_eq, decide_eq_false_iff_not, Bool.and_eq_true, Bool.or_eq_true, Bool.not_eq_true', beq_eq_false_iff_ne, Bool.false_eq_true, Bool.true_eq_false, true_iff, false_iff, iff_true, iff_false]; omega))
def ent (v r w : Int) : Bool := decide (1 ≤ w ∧ w ≤ 65536 ∧ r < w ∧ (v < 18446744073709551615 ∨ r = 0))
theorem chargeRight (v r w : Int) (hw : 0 ≤ w) (hw2 : w < 4294967296) : Pure Tryz.prog Γ 93 [.agg [.lit (.int .u64 v), .lit (.int .u32 r), .lit (.int .u32 w)]] (.lit (.bool (ent v r w))) := by
  refine Pure_at Tryz.func93 rfl 24 rfl (Nat.le_of_ble_eq_true rfl) rfl fun k => ?_
  refine C_seq rfl ?_
  refine S_reg rfl [0,1,2] [] rfl (fun K hK => ?_); simp -dsimp -implicitDefEqProofs only [go_sem, eq_self, ↓reduceIte]; (refine hK _ _ _ _ (fun hx => ?_)); clear hx hK; simp -dsimp -implicitDefEqProofs only [go_sem, eq_self, ↓reduceIte]
  refine C_seq rfl ?_
  refine S_reg rfl [0,1,2] [.ret (.lit (.bool (decide (1 ≤ w ∧ w ≤ 65536))))] rfl (fun K hK => ?_)
  refine rR ?_; apply zN
  rw [wrap_i64 (by omega) (by omega)]
  refine ⟨weighs w, ?_⟩
  (repeat' (refine gs_both (fun hg => ?_) (fun hg => ?_) <;> simp only [decide_eq_true_eq, decide_eq_false_iff_not, Bool.not_eq_true', Bool.not_eq_false'] at hg <;> simp -dsimp -implicitDefEqProofs only [go_sem, hg, eq_self, ↓reduceIte]))
  all_goals ((refine hK _ _ _ _ (fun hx => ?_)); clear hx hK; simp -dsimp -implicitDefEqProofs only [go_sem, eq_self, ↓reduceIte])
  all_goals (refine C_ret rfl ⟨_, rfl, VLe.of_eq ?_⟩)
  all_goals (unfold ent; (simp only [AVal.lit.injEq, Value.bool.injEq]; rw [Bool.eq_iff_iff]; simp only [beq_iff_eq, bne_iff_ne, ne_eq, decide_eq_true_eq, decide_eq_false_iff_not, Bool.and_eq_true, Bool.or_eq_true, Bool.not_eq_true', beq_eq_false_iff_ne, Bool.false_eq_true, Bool.true_eq_false, true_iff, false_iff, iff_true, iff_false]; omega))
theorem entity (v r w : Int) : Pure Tryz.prog Γ 89 [.lit (.int .u64 v), .lit (.int .u32 r), .lit (.int .i64 w)] (.lit (.bool (ent v r w))) := by
  refine Pure_at Tryz.func89 rfl 21 rfl (Nat.le_of_ble_eq_true rfl) rfl fun k => ?_
  refine C_seq rfl ?_
  refine S_reg rfl [0,1,2,6] [] rfl (fun K hK => ?_); simp -dsimp -implicitDefEqProofs only [go_sem, eq_self, ↓reduceIte]; (refine hK _ _ _ _ (fun hx => ?_)); clear hx hK; simp -dsimp -implicitDefEqProofs only [go_sem, eq_self, ↓reduceIte]
  refine C_seq rfl ?_
  refine S_reg rfl [6] [.ret (.lit (.bool (ent v r w)))] rfl (fun K hK => ?_); simp -dsimp -implicitDefEqProofs only [go_sem, eq_self, ↓reduceIte]; (repeat' (first | (refine And.intro ?_ ?_) | (refine gs_both (fun hb => ?_) (fun hb => ?_) <;> (have hg := hb; (try simp only [nfb] at hg); simp -dsimp -implicitDefEqProofs only [go_sem, hb, hg, eq_self, ↓reduceIte]; clear hb; (try simp only [nfe] at hg))))); (any_goals ((refine hK _ _ _ _ (fun hx => ?_)); clear hx hK; simp -dsimp -implicitDefEqProofs only [go_sem, eq_self, ↓reduceIte]; (try simp (disch := omega) only [wrap_i64, wrap_u64, wrap_u32, wrap_u8]))); (all_goals (try omega))
  · rw [wrap_u32 (by omega) (by omega)]; exact chargeRight v r w (by omega) (by omega)
  all_goals (refine C_ret rfl ⟨_, rfl, VLe.of_eq ?_⟩)
  · rfl
  all_goals (unfold ent; (simp only [AVal.lit.injEq, Value.bool.injEq]; rw [Bool.eq_iff_iff]; simp only [beq_iff_eq, bne_iff_ne, ne_eq, decide_eq_true_eq, decide_eq_false_iff_not, Bool.and_eq_true, Bool.or_eq_true, Bool.not_eq_true', beq_eq_false_iff_ne, Bool.false_eq_true, Bool.true_eq_false, true_iff, false_iff, iff_true, iff_false]; omega))
end Go.Proofs.T
end
section
namespace Go.Proofs.T
open Go Go.AM Go.Proofs
variable {Γ : List (Nat × List AVal)}
structure Tk where
  id : Int
  group : Int
  weight : Int
  cpu : Int
  mask : Int
  ready : Bool
  v : Int
  r : Int
structure Sp where
  v : Int
  r : Int
  floor : Int
structure St where
  cpus : Int
  credit : Int
  ng : Nat
  par : Nat → Int
  wt : Nat → Int
  nk : Nat
  clk : Nat → Int
  nu : Nat
  cur : Nat → Int
  nt : Nat
  tsk : Nat → Tk
  ns : Nat
  nsp : Nat → Nat
  sp : Nat → Nat → Sp
structure Flt where
  r : Int
  a : Int
  b : Int
deriving DecidableEq
abbrev i64 (n : Int) : AVal := .lit (.int .i64 n)
abbrev u64 (n : Int) : AVal := .lit (.int .u64 n)
abbrev u32 (n : Int) : AVal := .lit (.int .u32 n)
def Flt.row (f : Flt) : List AVal := [.lit (.int .u8 f.r), .lit (.int .i64 f.a), .lit (.int .i64 f.b)]
theorem wkU {kb k : Nat} {fr : Fr} {H : Heap} {k1 : Nat} {fr1 : Fr} {H1 : Heap} (hb : kb ≤ k1 := by omega) (hf : leF fr fr1 := by simp -dsimp -implicitDefEqProofs only [go_sem, uU, List.map_append, Flt.row, eq_self, ↓reduceIte]) (hH : leH H H1 := by simp -dsimp -implicitDefEqProofs only [go_sem, uU, List.map_append, Flt.row, eq_self, ↓reduceIte]) (h : bdF (ltB k1) fr1 = true := by simp -dsimp -implicitDefEqProofs only [go_sem, uU, List.map_append, Flt.row, eq_self, ↓reduceIte]) (h' : bdH (ltB k1) H1 = true := by simp -dsimp -implicitDefEqProofs only [go_sem, uU, List.map_append, Flt.row, eq_self, ↓reduceIte]) : Mv kb k fr H k1 fr1 H1 := Mv.wk (wk_low hb hf hH h h')
theorem wkF {kb k : Nat} {fr : Fr} {H : Heap} {k1 : Nat} {fr1 : Fr} {H1 : Heap} (hb : kb ≤ k1 := by omega) (hf : leF fr fr1 := by simp -dsimp -implicitDefEqProofs only [go_sem, List.map_append, Flt.row, eq_self, ↓reduceIte]) (hH : leH H H1 := by simp -dsimp -implicitDefEqProofs only [go_sem, List.map_append, Flt.row, eq_self, ↓reduceIte]) (h : bdF (ltB k1) fr1 = true := by simp -dsimp -implicitDefEqProofs only [go_sem, List.map_append, Flt.row, eq_self, ↓reduceIte]) (h' : bdH (ltB k1) H1 = true := by simp -dsimp -implicitDefEqProofs only [go_sem, List.map_append, Flt.row, eq_self, ↓reduceIte]) : Mv kb k fr H k1 fr1 H1 :=
  Mv.wk (wk_low hb hf hH h h')
def gf (s : St) (i : Nat) : List AVal := [.lit (.int .i64 (s.par i)), .lit (.int .i64 (s.wt i))]
def kf (s : St) (i : Nat) : List AVal := [.lit (.int .i64 (s.clk i))]
def uf (s : St) (i : Nat) : List AVal := [.lit (.int .i64 (s.cur i))]
def tf (s : St) (i : Nat) : List AVal := [.lit (.int .i64 (s.tsk i).id), .lit (.int .i64 (s.tsk i).group), .lit (.int .i64 (s.tsk i).weight), .lit (.int .i64 (s.tsk i).cpu), .lit (.int .u64 (s.tsk i).mask), .lit (.bool (s.tsk i).ready), .lit (.int .u64 (s.tsk i).v), .lit (.int .u32 (s.tsk i).r)]
def sf (s : St) (g c : Nat) : List AVal := [.lit (.int .u64 (s.sp g c).v), .lit (.int .u32 (s.sp g c).r), .lit (.int .u64 (s.sp g c).floor)]
def ssf (s : St) (g : Nat) : List AVal := [.rd 3 (s.nsp g) (sf s g)]
def St.cells (s : St) : List AVal := [.lit (.int .i64 s.cpus), .lit (.int .u64 s.credit), .rd 2 s.ng (gf s), .rd 1 s.nk (kf s), .rd 1 s.nu (uf s), .rd 8 s.nt (tf s), .rd 1 s.ns (ssf s)]
attribute [go_sem] gf kf uf tf sf ssf St.cells
def flats (f : Nat → List Flt) : Nat → List Flt
  | 0 => []
  | n + 1 => flats f n ++ f n
theorem flats_zero {f : Nat → List Flt} : flats f 0 = [] := rfl
theorem flats_succ {f : Nat → List Flt} {n : Nat} : flats f (n + 1) = flats f n ++ f n := rfl
theorem flats_len {f : Nat → List Flt} {m : Nat} (h : ∀ i, (f i).length ≤ m) : ∀ n, (flats f n).length ≤ n * m
  | 0 => by simp [flats]
  | n + 1 => by have := flats_len h n; have := h n; simp only [flats, List.length_append, Nat.add_mul, Nat.one_mul]; omega
def shapeAt (s : St) (g : Nat) : List Flt := if (s.nsp g : Int) = s.cpus then [] else [⟨2, 3, g⟩]
theorem shapeAt_len (s : St) (g : Nat) : (shapeAt s g).length ≤ 1 := by unfold shapeAt; split <;> simp
def shapesL (s : St) : List Flt :=
  (if (s.nk : Int) ≠ s.cpus then [⟨2, 0, 0⟩] else []) ++ (if (s.nu : Int) ≠ s.cpus then [⟨2, 1, 0⟩] else []) ++
    (if s.ns ≠ s.ng then [⟨2, 2, 0⟩] else flats (shapeAt s) s.ns)
set_option maxRecDepth 20000
end Go.Proofs.T
end
