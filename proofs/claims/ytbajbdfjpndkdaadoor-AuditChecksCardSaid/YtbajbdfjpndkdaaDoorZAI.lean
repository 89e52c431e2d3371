import Derived.Test.YtbajbdfjpndkdaaDoorZAH
import Derived.Test.YtbajbdfjpndkdaaDoorRows

section
/-! The reading of a state. -/
namespace Go.Proofs.T
open Go Go.AM Go.Proofs
set_option linter.unusedSimpArgs false
set_option linter.unusedVariables false
set_option maxRecDepth 4000
section
variable {H : Type} {enc : TypeId × Value → H} {P : Program} {w : World} {base : Nat} {sp : Nat → Bool} {held : Bool} {fuel : Nat} {t : TypeId} {cs : List Value} {x : DataW H × List MemPlace} {G : Nat → Prop}
theorem dec_field {fs : Array Field} (ht : P.underlying t = some (.struct fs)) (h : DataW.trod enc P w base sp held fuel t cs = some x) :
    cs.length = P.cellsOf t ∧ ∃ n, ∀ (i : Nat) (f : Field), fs[i]? = some f → ∃ y, DataW.trod enc P w base sp held n f.type ((cs.drop f.offset).take (P.cellsOf f.type)) = some y := by
  obtain ⟨xs, n, _, _, h1, h2, h3⟩ := DataW.trod_struct ht h
  refine ⟨h1, n, fun i f hf => ?_⟩
  have hi : i < xs.length := by rw [h2]; exact (Array.getElem?_eq_some_iff.1 hf).1
  exact ⟨xs[i], by rw [h3 i f hf, List.getElem?_eq_getElem hi]⟩
def Tk.cells (k : Tk) : List AVal := [.lit (.int .i64 k.id), .lit (.int .i64 k.group), .lit (.int .i64 k.weight), .lit (.int .i64 k.cpu), .lit (.int .u64 k.mask), .lit (.bool k.ready), .lit (.int .u64 k.v), .lit (.int .u32 k.r)]
def Sp.cells (k : Sp) : List AVal := [.lit (.int .u64 k.v), .lit (.int .u32 k.r), .lit (.int .u64 k.floor)]
def Tk.ok (k : Tk) : Prop := 0 ≤ k.mask ∧ k.mask < 18446744073709551616 ∧ k.v ≤ 18446744073709551615 ∧ 0 ≤ k.r
def Sp.ok (k : Sp) : Prop := 0 ≤ k.v ∧ k.v ≤ 18446744073709551615 ∧ 0 ≤ k.r
theorem u64_rng {n : Int} (h : (Lit.int .u64 n).wf = true) : 0 ≤ n ∧ n < 18446744073709551616 := by
  simp [Lit.wf] at h
  have e1 : IntKind.u64.min = 0 := rfl
  have e2 : IntKind.u64.max = 18446744073709551615 := rfl
  omega
theorem u32_rng {n : Int} (h : (Lit.int .u32 n).wf = true) : 0 ≤ n := by
  simp [Lit.wf] at h
  have e1 : IntKind.u32.min = 0 := rfl
  omega
theorem len2 {cs : List Value} (h : cs.length = 2) : ∃ a b, cs = [a, b] := by
  match cs, h with
  | [a, b], _ => exact ⟨a, b, rfl⟩
theorem len3 {cs : List Value} (h : cs.length = 3) : ∃ a b c, cs = [a, b, c] := by
  match cs, h with
  | [a, b, c], _ => exact ⟨a, b, c, rfl⟩
theorem len7 {cs : List Value} (h : cs.length = 7) : ∃ a b c d e f g, cs = [a, b, c, d, e, f, g] := by
  match cs, h with
  | [a, b, c, d, e, f, g], _ => exact ⟨a, b, c, d, e, f, g, rfl⟩
theorem len8 {cs : List Value} (h : cs.length = 8) : ∃ a b c d e f g i, cs = [a, b, c, d, e, f, g, i] := by
  match cs, h with
  | [a, b, c, d, e, f, g, i], _ => exact ⟨a, b, c, d, e, f, g, i, rfl⟩
theorem dec_group {n : Nat} {y : DataW H × List MemPlace} (hl : cs.length = 2) (h : DataW.trod enc Tryd.prog w base sp held n 78 cs = some y) :
    ∃ a : Int × Int, True ∧ Dec w G [.lit (.int .i64 a.1), .lit (.int .i64 a.2)] cs := by
  obtain ⟨_, m, hf⟩ := dec_field Tryd.underlying78 h
  obtain ⟨c0, c1, rfl⟩ := len2 hl
  obtain ⟨_, h0⟩ := hf 0 _ rfl
  obtain ⟨_, h1⟩ := hf 1 _ rfl
  obtain ⟨a, d0, _⟩ := dec_int (G := G) Tryd.underlying3 h0
  obtain ⟨b, d1, _⟩ := dec_int (G := G) Tryd.underlying3 h1
  exact ⟨(a, b), trivial, d0.app d1⟩
theorem dec_task {n : Nat} {y : DataW H × List MemPlace} (hl : cs.length = 8) (h : DataW.trod enc Tryd.prog w base sp held n 46 cs = some y) :
    ∃ a : Tk, a.ok ∧ Dec w G a.cells cs := by
  obtain ⟨_, m, hf⟩ := dec_field Tryd.underlying46 h
  obtain ⟨c0, c1, c2, c3, c4, c5, c6, c7, rfl⟩ := len8 hl
  obtain ⟨_, h0⟩ := hf 0 _ rfl
  obtain ⟨_, h1⟩ := hf 1 _ rfl
  obtain ⟨_, h2⟩ := hf 2 _ rfl
  obtain ⟨_, h3⟩ := hf 3 _ rfl
  obtain ⟨_, h4⟩ := hf 4 _ rfl
  obtain ⟨_, h5⟩ := hf 5 _ rfl
  obtain ⟨_, h6⟩ := hf 6 _ rfl
  obtain ⟨_, h7⟩ := hf 7 _ rfl
  obtain ⟨a0, d0, _⟩ := dec_int (G := G) Tryd.underlying3 h0
  obtain ⟨a1, d1, _⟩ := dec_int (G := G) Tryd.underlying3 h1
  obtain ⟨a2, d2, _⟩ := dec_int (G := G) Tryd.underlying3 h2
  obtain ⟨a3, d3, _⟩ := dec_int (G := G) Tryd.underlying3 h3
  obtain ⟨a4, d4, w4⟩ := dec_int (G := G) Tryd.underlying22 h4
  obtain ⟨a5, d5⟩ := dec_bool (G := G) Tryd.underlying4 h5
  obtain ⟨a6, d6, w6⟩ := dec_int (G := G) Tryd.underlying22 h6
  obtain ⟨a7, d7, w7⟩ := dec_int (G := G) Tryd.underlying44 h7
  have := u64_rng w4
  have := u64_rng w6
  have := u32_rng w7
  exact ⟨⟨a0, a1, a2, a3, a4, a5, a6, a7⟩, ⟨by simp only; omega, by simp only; omega, by simp only; omega, by simp only; omega⟩, d0.app (d1.app (d2.app (d3.app (d4.app (d5.app (d6.app d7))))))⟩
theorem dec_spot {n : Nat} {y : DataW H × List MemPlace} (hl : cs.length = 3) (h : DataW.trod enc Tryd.prog w base sp held n 48 cs = some y) :
    ∃ a : Sp, a.ok ∧ Dec w G a.cells cs := by
  obtain ⟨_, m, hf⟩ := dec_field Tryd.underlying48 h
  obtain ⟨c0, c1, c2, rfl⟩ := len3 hl
  obtain ⟨_, h0⟩ := hf 0 _ rfl
  obtain ⟨_, h1⟩ := hf 1 _ rfl
  obtain ⟨_, h2⟩ := hf 2 _ rfl
  obtain ⟨a0, d0, w0⟩ := dec_int (G := G) Tryd.underlying22 h0
  obtain ⟨a1, d1, w1⟩ := dec_int (G := G) Tryd.underlying44 h1
  obtain ⟨a2, d2, w2⟩ := dec_int (G := G) Tryd.underlying22 h2
  have := u64_rng w0
  have := u32_rng w1
  exact ⟨⟨a0, a1, a2⟩, ⟨by simp only; omega, by simp only; omega, by simp only; omega⟩, d0.app (d1.app d2)⟩
theorem dec_ints (hG : ∀ b, b < w.heap.size → G b) (h : DataW.trod enc Tryd.prog w base sp held fuel 26 cs = some x) : ∃ (n : Nat) (f : Nat → Int), Dec w G [.rd 1 n (fun i => [.lit (.int .i64 (f i))])] cs := by
  obtain ⟨n, f, _, d⟩ := dec_slice (G := G) (fun a : Int => [.lit (.int .i64 a)]) (fun _ => True) 0 trivial (sz := 1) (by omega) Tryd.underlying26 (by kernel_rfl) hG (fun n cs y hl hy => by
    obtain ⟨a, d, _⟩ := dec_int (G := G) Tryd.underlying3 hy
    exact ⟨a, trivial, d⟩) h
  exact ⟨n, f, d⟩
theorem dec_spots (hG : ∀ b, b < w.heap.size → G b) (h : DataW.trod enc Tryd.prog w base sp held fuel 49 cs = some x) : ∃ (a : Nat × (Nat → Sp)), (∀ i, (a.2 i).ok) ∧ Dec w G [.rd 3 a.1 (fun i => (a.2 i).cells)] cs := by
  obtain ⟨n, f, q, d⟩ := dec_slice (G := G) Sp.cells Sp.ok ⟨0, 0, 0⟩ ⟨by simp, by simp, by simp⟩ (sz := 3) (by omega) Tryd.underlying49 (by kernel_rfl) hG (fun n cs y hl hy => dec_spot hl hy) h
  exact ⟨(n, f), q, d⟩
theorem dec_state (hG : ∀ b, b < w.heap.size → G b) (h : DataW.trod enc Tryd.prog w base sp held fuel 30 cs = some x) : ∃ s : St, Kinds s ∧ Dec w G s.cells cs := by
  obtain ⟨hl, m, hf⟩ := dec_field Tryd.underlying30 h
  have hl7 : cs.length = 7 := hl.trans (by kernel_rfl)
  obtain ⟨c0, c1, c2, c3, c4, c5, c6, rfl⟩ := len7 hl7
  obtain ⟨_, h0⟩ := hf 0 _ rfl
  obtain ⟨_, h1⟩ := hf 1 _ rfl
  obtain ⟨_, h2⟩ := hf 2 _ rfl
  obtain ⟨_, h3⟩ := hf 3 _ rfl
  obtain ⟨_, h4⟩ := hf 4 _ rfl
  obtain ⟨_, m', hf'⟩ := dec_field Tryd.underlying25 h0
  obtain ⟨_, k0⟩ := hf' 0 _ rfl
  obtain ⟨_, k1⟩ := hf' 1 _ rfl
  obtain ⟨_, k2⟩ := hf' 2 _ rfl
  obtain ⟨cpus, d0, _⟩ := dec_int (G := G) Tryd.underlying3 k0
  obtain ⟨credit, d1, _⟩ := dec_int (G := G) Tryd.underlying22 k1
  obtain ⟨ng, fg, _, d2⟩ := dec_slice (G := G) (fun a : Int × Int => [.lit (.int .i64 a.1), .lit (.int .i64 a.2)]) (fun _ => True) (0, 0) trivial (sz := 2) (by omega) Tryd.underlying23 (by kernel_rfl) hG (fun n cs y hl hy => dec_group hl hy) k2
  obtain ⟨nk, fk, d3⟩ := dec_ints hG h1
  obtain ⟨nu, fu, d4⟩ := dec_ints hG h2
  obtain ⟨nt, ft, qt, d5⟩ := dec_slice (G := G) Tk.cells Tk.ok ⟨0, 0, 0, 0, 0, false, 0, 0⟩ ⟨by simp, by simp, by simp, by simp⟩ (sz := 8) (by omega) Tryd.underlying27 (by kernel_rfl) hG (fun n cs y hl hy => dec_task hl hy) h3
  obtain ⟨ns, fs, qs, d6⟩ := dec_slice (G := G) (fun a : Nat × (Nat → Sp) => [.rd 3 a.1 (fun i => (a.2 i).cells)]) (fun a => ∀ i, (a.2 i).ok) (0, fun _ => ⟨0, 0, 0⟩) (fun i => ⟨by simp, by simp, by simp⟩) (sz := 1) (by omega) Tryd.underlying28 (by kernel_rfl) hG (fun n cs y hl hy => dec_spots hG hy) h4
  refine ⟨⟨cpus, credit, ng, fun i => (fg i).1, fun i => (fg i).2, nk, fk, nu, fu, nt, ft, ns, fun g => (fs g).1, fun g c => (fs g).2 c⟩, ⟨⟨fun i => (qt i).1, fun i => (qt i).2.1, fun i => (qt i).2.2.1, fun i => (qt i).2.2.2, fun g c => (qs g c).2.1, fun g c => (qs g c).2.2⟩, fun g c => (qs g c).1⟩, ?_⟩
  exact d0.app (d1.app (d2.app (d3.app (d4.app (d5.app d6)))))
end
end Go.Proofs.T
end

section
/-! AuditChecks: the row. -/
namespace Go.Proofs.T
open Go Go.AM Go.Proofs Go.ChangeShapes Go.WideShapes Go.ChangeAt Go.WideMaps Go.WideElems Go.RowKit Go.Proofs.YtbajbdfjpndkdaaDoor
set_option linter.unusedSimpArgs false
set_option linter.unusedVariables false
set_option maxRecDepth 100000
theorem ownK : ownKnob Tryd.prog.godebug = none := by kernel_rfl
theorem laidOut : laidOutB Tryd.prog = true := by kernel_rfl
theorem vs_one {W : World} {G : Nat → Prop} {ρ : Names} {A : Allow} {v : AVal} {c : Value} (h : V W G ρ A v c) : Vs W G ρ A [v] #[c] :=
  ⟨rfl, fun j u hj => by
    match j with
    | 0 => cases hj; exact h
    | j + 1 => simp at hj⟩
theorem agg_of_ok {W : World} {r : Reach} {base : Nat} {v : Value} (h : Value.okWide Tryd.prog W r base 30 v) : ∃ cs, v = .agg cs := by
  unfold Value.okWide at h
  rw [Tryd.underlying30] at h
  obtain ⟨cs, h1, _⟩ := h
  exact ⟨cs, h1⟩
theorem state_of {H : Type} {enc : TypeId × Value → H} {W : World} {cs : Array Value} {d : DataW H} {p : List MemPlace} (h : DataW.Trod enc Tryd.prog W 0 (fun _ => true) true 30 (.agg cs) d p) :
    ∃ s : St, Kinds s ∧ V W (fun b => b < W.heap.size) noNames noAllow (.agg s.cells) (.agg cs) := by
  obtain ⟨fuel, h⟩ := h
  obtain ⟨s, hk, hd⟩ := dec_state (G := fun b => b < W.heap.size) (fun b hb => hb) h
  exact ⟨s, hk, V.of_dec hd⟩
theorem door_met (os : Os) (args : Array Value) : laidMetH Tryd.prog Rows.auditChecksRow.laid ((World.doorLaid Tryd.prog 400 os).forCall (fun _ _ => 0) ⟨#[], args, []⟩).memory :=
  laidMetH_of_parts3 (fuel := 8) (laidMet_of_run' 8 (by kernel_rfl) (by kernel_rfl)) (by kernel_rfl) (by kernel_rfl)
def zeroState : Value := .agg #[.int .i64 0, .int .u64 0, .slice none 0 0, .slice none 0 0, .slice none 0 0, .slice none 0 0, .slice none 0 0]
theorem lifted (os : Os) (started : os.Started) (H : Type) (enc : TypeId × Value → H) :
    ReturnsInHanded {} Tryd.checked os 3 .any (fun w args => (Rows.auditChecksSpec.pre enc Tryd.prog Tryd.f3 [] false w args ∧ laidMetH Tryd.prog Rows.auditChecksRow.laid w) ∧ sizedMet enc Tryd.prog Tryd.f3 (OpenSpec.ofChange Rows.auditChecksSpec) false w args)
      (Rows.auditChecksSpec.post enc Tryd.prog Tryd.f3 false true false false) := by
  refine returnsInHanded_of_change_and (C := Tryd.checked) (X := fun w _ => laidMetH Tryd.prog Rows.auditChecksRow.laid w) (fun _ _ _ hh h => h.of_heap hh) ownK started (by kernel_rfl) Tryd.func3
    (ChangeSpec.witness_shaped (enc := enc) (C := Tryd.checked) (os := os) (X := fun w _ => laidMetH Tryd.prog Rows.auditChecksRow.laid w) false (World.doorLaid Tryd.prog 400 os) #[zeroState] 8 rfl (World.shaped_of_RefB (by kernel_rfl) (by kernel_rfl)) (by kernel_rfl) (by kernel_rfl) (by kernel_rfl) (door_met os _)) ?_
  intro W base args ds gs before hval0 hW _ _ hL _
  have hval : ∀ (j : Nat) t v, Tryd.f3.params[j]? = some t → args[j]? = some v → Value.okWide Tryd.prog W .any base t v := hval0
  have hW' := hW
  obtain ⟨p, q, hA0, hV, rfl, hfz, hnd⟩ := hW
  have hA : DataW.TrodAll enc Tryd.prog W 0 (fun _ => true) true Tryd.f3.params.toList args.toList ds p := hA0
  rw [Tryd.params3] at hA hval
  obtain ⟨v0, d0, rfl, rfl, h0⟩ := trodAll_one hA
  obtain ⟨rfl, rfl⟩ := trodVars_none hV
  clear hA0 hval0
  obtain ⟨cs, rfl⟩ := agg_of_ok (hval 0 30 v0 rfl rfl)
  obtain ⟨s, hk, hv⟩ := state_of h0
  refine (row_call (auditChecks s hk) (vs_one hv)).mono fun e W' ⟨he, hb⟩ => ?_
  subst he
  have hlt : ∀ x ∈ p, x.block < W.heap.size := fun x hx => hW'.lt x (by simpa using hx)
  refine ⟨_, rfl, _, _, _, [], p, [], hW', ?_, ?_, rfl, keptBut_below hb _, fun h => by cases h⟩
  · exact trodAll_mk1 (shut_bool Tryd.underlying4 true)
  · exact trodAll_mk1 (Below.trod laidOut (by kernel_rfl) (of_decide_eq_true (by kernel_rfl)) h0 hb hlt)
theorem auditChecks_holds : Rows.AuditChecksSaid :=
  OpenClaim.holds_of_wide 3 Tryd.f3 rfl rfl rfl rfl rfl rfl rfl ⟨rfl, rfl, rfl, rfl, rfl⟩ rfl rfl rfl rfl rfl (by kernel_rfl) Tryd.func3 (by kernel_rfl)
    (of_decide_eq_true (by kernel_rfl)) (by unfold Func.isWrapper; first | (rw [if_pos (by decide +kernel)]; kernel_rfl) | (rw [if_neg (by decide +kernel)]; exact ⟨rfl, rfl⟩))
    (fun os started H enc _ => lifted os started H enc)
end Go.Proofs.T
end
