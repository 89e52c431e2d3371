import Derived.Test.YtkiadljldlppbaaGreatDoorZAU
set_option linter.unusedVariables false
set_option linter.unusedSimpArgs false
section
namespace Go.Proofs.T
open Go Go.AM Go.Proofs
set_option maxRecDepth 20000
variable {Γ : List (Nat × List AVal)}
theorem alB_later {L M : LSt} {n : Nat} (hL : Rt L n) (hM : Rt M n) (h : Later L M) (i : Nat) : alB L.st M.st i = true := by
  have h1 := hL.r0.ng
  have h2 := hM.r0.ng
  have h3 := h.ns
  simp only [alB, decide_eq_true_eq]
  exact ⟨h.cpus.symm, h.credit.symm, by show L.gl.length = M.gl.length; omega, fun g _ => (h.par g).symm⟩
theorem moves_no {L M : LSt} (h : Later L M) : movesL L.st M.st = [] := by
  unfold movesL
  rw [flats_nil_iff.2 fun c _ => ?_, flats_nil_iff.2 fun g _ => ?_]; · rfl
  · exact flats_nil_iff.2 fun c _ => by
      have := h.fl g c
      have e : ¬ (M.st.sp g c).floor < (L.st.sp g c).floor := by show ¬ (M.sp g c).floor < (L.sp g c).floor; omega
      simp [fellAt, iff1, e]
  · have := h.clk c
    have e : ¬ M.st.clk c < L.st.clk c := by show ¬ M.clk c < L.clk c; omega
    simp [backAt, iff1, e]
theorem badP_no {L M : LSt} {n : Nat} (hL : Rt L n) (hM : Rt M n) (h1 : L.sl.length ≤ 12) (h2 : M.sl.length ≤ 12) : ¬ badP L.st M.st := by
  unfold badP
  rw [check_no hL.r0 hL.fl h1 hL.cfg, check_no hM.r0 hM.fl h2 hM.cfg]
  simp
theorem mstep {L M : LSt} {n : Nat} (hn : n ≤ 12) (hL : Rt L n) (hM : Rt M n) (h1 : L.sl.length ≤ 12) (h2 : M.sl.length ≤ 12) :
    AM.Pure Tryz.prog Γ 15 [.agg L.st.cells, .agg M.st.cells] (.tup [rows 3 ((if alB L.st M.st L.st.ng = false then [⟨17, 0, 0⟩] else movesL L.st M.st).map Flt.row), .lit (.int .i64 0)]) := by
  have h := step L.st M.st (hL.r0.preOk h1 hn) (hM.r0.preOk h2 hn) hL.r0.kinds hM.r0.kinds (Γ := Γ)
  have hb := badP_no hL hM h1 h2
  rw [stepF2, stepE2, if_neg hb, if_neg hb] at h
  exact h
theorem mstep_no {L M : LSt} {n : Nat} (hn : n ≤ 12) (hL : Rt L n) (hM : Rt M n) (h1 : L.sl.length ≤ 12) (h : Later L M) :
    AM.Pure Tryz.prog Γ 15 [.agg L.st.cells, .agg M.st.cells] (.tup [.rd 3 0 (fun _ => []), .lit (.int .i64 0)]) := by
  have h2 := mstep hn hL hM h1 (by rw [h.ns]; exact h1) (Γ := Γ)
  rw [alB_later hL hM h, if_neg (by simp), moves_no h] at h2
  exact h2
end Go.Proofs.T
end
