import Derived.Test.YteimiejbhhgljaaGreatDoorZAP
import Derived.Test.YteimiejbhhgljaaGreatDoorRows
import Derived.HandedShaped
import Derived.Stop.LaidErr
import Derived.LaidSub
import Derived.Shelf.Vars
import Derived.ChangeMaps5
import Derived.Lay
import Derived.MakeChecks
import Derived.JoinedOf
import Derived.Carry
set_option linter.unusedVariables false
set_option linter.unusedSimpArgs false
section
namespace Go.Proofs.T
open Go Go.AM Go.Proofs
set_option maxRecDepth 20000
section
variable {H : Type} {enc : TypeId × Value → H} {P : Program} {w : World} {base : Nat} {sp : Nat → Bool} {held : Bool} {fuel : Nat} {t : TypeId} {cs : List Value} {x : DataW H × List MemPlace} {G : Nat → Prop}
theorem dec_field {fs : Array Field} (ht : P.underlying t = some (.struct fs)) (h : DataW.trod enc P w base sp held fuel t cs = some x) :
    cs.length = P.cellsOf t ∧ ∃ n, ∀ (i : Nat) (f : Field), fs[i]? = some f → ∃ y, DataW.trod enc P w base sp held n f.type ((cs.drop f.offset).take (P.cellsOf f.type)) = some y := by
  obtain ⟨xs, n, _, _, h1, h2, h3⟩ := DataW.trod_struct ht h
  refine ⟨h1, n, fun i f hf => ?_⟩
  have hi : i < xs.length := by rw [h2]; exact (Array.getElem?_eq_some_iff.1 hf).1
  exact ⟨xs[i], by rw [h3 i f hf, List.getElem?_eq_getElem hi]⟩
def Tk.cells (k : Tk) : List AVal := [.lit (.int .i64 k.id), .lit (.int .i64 k.group), .lit (.int .i64 k.weight), .lit (.int .i64 k.cpu), .lit (.int .u64 k.mask), .lit (.bool k.ready), .lit (.int .u64 k.v), .lit (.int .u32 k.r)]
def Sp.cells (k : Sp) : List AVal := [.lit (.int .u64 k.v), .lit (.int .u32 k.r), .lit (.int .u64 k.floor)]
def Tk.ok (k : Tk) : Prop := 0 ≤ k.mask ∧ k.mask < 18446744073709551616 ∧ k.v ≤ 18446744073709551615 ∧ 0 ≤ k.r
def Sp.ok (k : Sp) : Prop := 0 ≤ k.v ∧ k.v ≤ 18446744073709551615 ∧ 0 ≤ k.r
theorem u64_rng {n : Int} (h : (Lit.int .u64 n).wf = true) : 0 ≤ n ∧ n < 18446744073709551616 := by
  simp [Lit.wf] at h
  have e1 : IntKind.u64.min = 0 := rfl
  have e2 : IntKind.u64.max = 18446744073709551615 := rfl
  omega
theorem u32_rng {n : Int} (h : (Lit.int .u32 n).wf = true) : 0 ≤ n := by
  simp [Lit.wf] at h
  have e1 : IntKind.u32.min = 0 := rfl
  omega
theorem len2 {cs : List Value} (h : cs.length = 2) : ∃ a b, cs = [a, b] := by
  match cs, h with
  | [a, b], _ => exact ⟨a, b, rfl⟩
theorem len3 {cs : List Value} (h : cs.length = 3) : ∃ a b c, cs = [a, b, c] := by
  match cs, h with
  | [a, b, c], _ => exact ⟨a, b, c, rfl⟩
theorem len7 {cs : List Value} (h : cs.length = 7) : ∃ a b c d e f g, cs = [a, b, c, d, e, f, g] := by
  match cs, h with
  | [a, b, c, d, e, f, g], _ => exact ⟨a, b, c, d, e, f, g, rfl⟩
theorem len8 {cs : List Value} (h : cs.length = 8) : ∃ a b c d e f g i, cs = [a, b, c, d, e, f, g, i] := by
  match cs, h with
  | [a, b, c, d, e, f, g, i], _ => exact ⟨a, b, c, d, e, f, g, i, rfl⟩
theorem dec_group {n : Nat} {y : DataW H × List MemPlace} (hl : cs.length = 2) (h : DataW.trod enc Tryz.prog w base sp held n 111 cs = some y) :
    ∃ a : Int × Int, True ∧ Dec w G [.lit (.int .i64 a.1), .lit (.int .i64 a.2)] cs := by
  obtain ⟨_, m, hf⟩ := dec_field Tryz.underlying111 h
  obtain ⟨c0, c1, rfl⟩ := len2 hl
  obtain ⟨_, h0⟩ := hf 0 _ rfl
  obtain ⟨_, h1⟩ := hf 1 _ rfl
  obtain ⟨a, d0, _⟩ := dec_int (G := G) Tryz.underlying3 h0
  obtain ⟨b, d1, _⟩ := dec_int (G := G) Tryz.underlying3 h1
  exact ⟨(a, b), trivial, d0.app d1⟩
theorem dec_task {n : Nat} {y : DataW H × List MemPlace} (hl : cs.length = 8) (h : DataW.trod enc Tryz.prog w base sp held n 89 cs = some y) :
    ∃ a : Tk, a.ok ∧ Dec w G a.cells cs := by
  obtain ⟨_, m, hf⟩ := dec_field Tryz.underlying89 h
  obtain ⟨c0, c1, c2, c3, c4, c5, c6, c7, rfl⟩ := len8 hl
  obtain ⟨_, h0⟩ := hf 0 _ rfl
  obtain ⟨_, h1⟩ := hf 1 _ rfl
  obtain ⟨_, h2⟩ := hf 2 _ rfl
  obtain ⟨_, h3⟩ := hf 3 _ rfl
  obtain ⟨_, h4⟩ := hf 4 _ rfl
  obtain ⟨_, h5⟩ := hf 5 _ rfl
  obtain ⟨_, h6⟩ := hf 6 _ rfl
  obtain ⟨_, h7⟩ := hf 7 _ rfl
  obtain ⟨a0, d0, _⟩ := dec_int (G := G) Tryz.underlying3 h0
  obtain ⟨a1, d1, _⟩ := dec_int (G := G) Tryz.underlying3 h1
  obtain ⟨a2, d2, _⟩ := dec_int (G := G) Tryz.underlying3 h2
  obtain ⟨a3, d3, _⟩ := dec_int (G := G) Tryz.underlying3 h3
  obtain ⟨a4, d4, w4⟩ := dec_int (G := G) Tryz.underlying22 h4
  obtain ⟨a5, d5⟩ := dec_bool (G := G) Tryz.underlying4 h5
  obtain ⟨a6, d6, w6⟩ := dec_int (G := G) Tryz.underlying22 h6
  obtain ⟨a7, d7, w7⟩ := dec_int (G := G) Tryz.underlying50 h7
  have := u64_rng w4
  have := u64_rng w6
  have := u32_rng w7
  exact ⟨⟨a0, a1, a2, a3, a4, a5, a6, a7⟩, ⟨by simp only; omega, by simp only; omega, by simp only; omega, by simp only; omega⟩, d0.app (d1.app (d2.app (d3.app (d4.app (d5.app (d6.app d7))))))⟩
theorem dec_spot {n : Nat} {y : DataW H × List MemPlace} (hl : cs.length = 3) (h : DataW.trod enc Tryz.prog w base sp held n 91 cs = some y) :
    ∃ a : Sp, a.ok ∧ Dec w G a.cells cs := by
  obtain ⟨_, m, hf⟩ := dec_field Tryz.underlying91 h
  obtain ⟨c0, c1, c2, rfl⟩ := len3 hl
  obtain ⟨_, h0⟩ := hf 0 _ rfl
  obtain ⟨_, h1⟩ := hf 1 _ rfl
  obtain ⟨_, h2⟩ := hf 2 _ rfl
  obtain ⟨a0, d0, w0⟩ := dec_int (G := G) Tryz.underlying22 h0
  obtain ⟨a1, d1, w1⟩ := dec_int (G := G) Tryz.underlying50 h1
  obtain ⟨a2, d2, w2⟩ := dec_int (G := G) Tryz.underlying22 h2
  have := u64_rng w0
  have := u32_rng w1
  exact ⟨⟨a0, a1, a2⟩, ⟨by simp only; omega, by simp only; omega, by simp only; omega⟩, d0.app (d1.app d2)⟩
theorem dec_ints (hG : ∀ b, b < w.heap.size → G b) (h : DataW.trod enc Tryz.prog w base sp held fuel 26 cs = some x) : ∃ (n : Nat) (f : Nat → Int), Dec w G [.rd 1 n (fun i => [.lit (.int .i64 (f i))])] cs := by
  obtain ⟨n, f, _, d⟩ := dec_slice (G := G) (fun a : Int => [.lit (.int .i64 a)]) (fun _ => True) 0 trivial (sz := 1) (by omega) Tryz.underlying26 (by kernel_rfl) hG (fun n cs y hl hy => by
    obtain ⟨a, d, _⟩ := dec_int (G := G) Tryz.underlying3 hy
    exact ⟨a, trivial, d⟩) h
  exact ⟨n, f, d⟩
theorem dec_spots (hG : ∀ b, b < w.heap.size → G b) (h : DataW.trod enc Tryz.prog w base sp held fuel 112 cs = some x) : ∃ (a : Nat × (Nat → Sp)), (∀ i, (a.2 i).ok) ∧ Dec w G [.rd 3 a.1 (fun i => (a.2 i).cells)] cs := by
  obtain ⟨n, f, q, d⟩ := dec_slice (G := G) Sp.cells Sp.ok ⟨0, 0, 0⟩ ⟨by simp, by simp, by simp⟩ (sz := 3) (by omega) Tryz.underlying112 (by kernel_rfl) hG (fun n cs y hl hy => dec_spot hl hy) h
  exact ⟨(n, f), q, d⟩
theorem dec_state (hG : ∀ b, b < w.heap.size → G b) (h : DataW.trod enc Tryz.prog w base sp held fuel 30 cs = some x) : ∃ s : St, Kinds s ∧ Dec w G s.cells cs := by
  obtain ⟨hl, m, hf⟩ := dec_field Tryz.underlying30 h
  have hl7 : cs.length = 7 := hl.trans (by kernel_rfl)
  obtain ⟨c0, c1, c2, c3, c4, c5, c6, rfl⟩ := len7 hl7
  obtain ⟨_, h0⟩ := hf 0 _ rfl
  obtain ⟨_, h1⟩ := hf 1 _ rfl
  obtain ⟨_, h2⟩ := hf 2 _ rfl
  obtain ⟨_, h3⟩ := hf 3 _ rfl
  obtain ⟨_, h4⟩ := hf 4 _ rfl
  obtain ⟨_, m', hf'⟩ := dec_field Tryz.underlying25 h0
  obtain ⟨_, k0⟩ := hf' 0 _ rfl
  obtain ⟨_, k1⟩ := hf' 1 _ rfl
  obtain ⟨_, k2⟩ := hf' 2 _ rfl
  obtain ⟨cpus, d0, _⟩ := dec_int (G := G) Tryz.underlying3 k0
  obtain ⟨credit, d1, _⟩ := dec_int (G := G) Tryz.underlying22 k1
  obtain ⟨ng, fg, _, d2⟩ := dec_slice (G := G) (fun a : Int × Int => [.lit (.int .i64 a.1), .lit (.int .i64 a.2)]) (fun _ => True) (0, 0) trivial (sz := 2) (by omega) Tryz.underlying23 (by kernel_rfl) hG (fun n cs y hl hy => dec_group hl hy) k2
  obtain ⟨nk, fk, d3⟩ := dec_ints hG h1
  obtain ⟨nu, fu, d4⟩ := dec_ints hG h2
  obtain ⟨nt, ft, qt, d5⟩ := dec_slice (G := G) Tk.cells Tk.ok ⟨0, 0, 0, 0, 0, false, 0, 0⟩ ⟨by simp, by simp, by simp, by simp⟩ (sz := 8) (by omega) Tryz.underlying27 (by kernel_rfl) hG (fun n cs y hl hy => dec_task hl hy) h3
  obtain ⟨ns, fs, qs, d6⟩ := dec_slice (G := G) (fun a : Nat × (Nat → Sp) => [.rd 3 a.1 (fun i => (a.2 i).cells)]) (fun a => ∀ i, (a.2 i).ok) (0, fun _ => ⟨0, 0, 0⟩) (fun i => ⟨by simp, by simp, by simp⟩) (sz := 1) (by omega) Tryz.underlying28 (by kernel_rfl) hG (fun n cs y hl hy => dec_spots hG hy) h4
  refine ⟨⟨cpus, credit, ng, fun i => (fg i).1, fun i => (fg i).2, nk, fk, nu, fu, nt, ft, ns, fun g => (fs g).1, fun g c => (fs g).2 c⟩, ⟨⟨fun i => (qt i).1, fun i => (qt i).2.1, fun i => (qt i).2.2.1, fun i => (qt i).2.2.2, fun g c => (qs g c).2.1, fun g c => (qs g c).2.2⟩, fun g c => (qs g c).1⟩, ?_⟩
  exact d0.app (d1.app (d2.app (d3.app (d4.app (d5.app d6)))))
end
end Go.Proofs.T
end
section
namespace Go.Proofs.T
open Go Go.AM Go.Proofs Go.ChangeShapes Go.WideShapes Go.ChangeAt Go.WideMaps Go.WideElems Go.RowKit Go.Proofs.YteimiejbhhgljaaGreatDoor
set_option maxRecDepth 100000
theorem ownK : ownKnob Tryz.prog.godebug = none := by kernel_rfl
theorem laidOut : laidOutB Tryz.prog = true := by kernel_rfl
theorem agg_of_ok {W : World} {r : Reach} {base : Nat} {v : Value} (h : Value.okWide Tryz.prog W r base 30 v) : ∃ cs, v = .agg cs := by
  unfold Value.okWide at h
  rw [Tryz.underlying30] at h
  obtain ⟨cs, h1, _⟩ := h
  exact ⟨cs, h1⟩
theorem state_of {H : Type} {enc : TypeId × Value → H} {W : World} {cs : Array Value} {d : DataW H} {p : List MemPlace} (h : DataW.Trod enc Tryz.prog W 0 (fun _ => true) true 30 (.agg cs) d p) :
    ∃ s : St, Kinds s ∧ V W (fun b => b < W.heap.size) noNames noAllow (.agg s.cells) (.agg cs) := by
  obtain ⟨fuel, h⟩ := h
  obtain ⟨s, hk, hd⟩ := dec_state (G := fun b => b < W.heap.size) (fun b hb => hb) h
  exact ⟨s, hk, V.of_dec hd⟩
def zeroState : Value := .agg #[.int .i64 0, .int .u64 0, .slice none 0 0, .slice none 0 0, .slice none 0 0, .slice none 0 0, .slice none 0 0]
end Go.Proofs.T
end
section
namespace Go.AM
open Go Go.RowKit
theorem globIs_of {W : World} {g : Nat} {cs : List Value} {ty : TypeId} {x : Nat × Nat} (h : W.heap[g]? = some (.cells cs.toArray ty x)) : GlobIs W (fun b => b < W.heap.size) g (cs.map .lit) := by
  have hg : g < W.heap.size := (Array.getElem?_eq_some_iff.1 h).1
  refine ⟨.rp (fun j => cs.getD j undef) hg (fun j v hj => ?_) (fun j v hj => ?_), hg, _, _, _, h, by simp⟩
  · simp only [List.getElem?_map, Option.map_eq_some_iff] at hj
    obtain ⟨u, hu, rfl⟩ := hj
    unfold World.cell?
    simp [h, hu, List.getD]
  · simp only [List.getElem?_map, Option.map_eq_some_iff] at hj
    obtain ⟨u, hu, rfl⟩ := hj
    have e : cs.getD j undef = u := by simp [List.getD, hu]
    simp only [e]; exact .lit
theorem globIs_var {P : Program} {W : World} {g : Nat} {name : String} {cs : List Value} (hg : P.globalNamed name = some g) (h : W.var? P name = some cs.toArray) : GlobIs W (fun b => b < W.heap.size) g (cs.map .lit) := by
  unfold World.var? at h
  rw [hg, Option.bind_some] at h
  split at h
  · rename_i c t x hh; cases h; exact globIs_of hh
  · cases h
theorem globIs_int {P : Program} {W : World} {g : Nat} {t : TypeId} {zero : Array Value} {k : IntKind} (h : W.ShapedOpen P) (hg : g < P.globals.size)
    (h0 : ((begin P (fun _ _ => 0) default).world.heap[g]?).bind Obj.row? = some (zero, t)) (hz : zero.size = 1)
    (hb : P.buildable t = true) (hc : P.cellTypes P.depth t = some [t]) (hu : P.underlying t = some (.int k)) : ∃ m, GlobIs W (fun b => b < W.heap.size) g [.lit (.int k m)] := by
  obtain ⟨m, hm⟩ := Go.Proofs.cell_of_shapedOpen_int h hg h0 hz hb hc hu
  obtain ⟨cs, hh, hs, _⟩ := h.1 g zero t hg h0
  have e : cs = [Value.int k m].toArray := by
    unfold World.cell? at hm
    simp only [hh, Option.isSome_none, Bool.false_eq_true, if_false] at hm
    refine Array.ext (by simp [hs, hz]) fun i h1 h2 => ?_
    have : i = 0 := by simp at h2; exact h2
    subst this
    rw [Array.getElem?_eq_getElem h1] at hm
    simpa using hm
  rw [e] at hh
  exact ⟨m, globIs_of hh⟩
theorem row_callG {P : Program} {Γ : List (Nat × List AVal)} {f : FuncId} {vs : List AVal} {b : Bool} {args : Array Value} {W : World} (hΓ : ∀ g cells, look Γ g = some cells → GlobIs W (fun b => b < W.heap.size) g cells) (h : Pure P Γ f vs (.lit (.bool b)))
    (hv : Vs W (fun b => b < W.heap.size) noNames noAllow vs args) : Calls P f args W fun e W' => e = .returned (.bool b) ∧ Below W.heap.size W W' := by
  refine (h 0 noAllow (fun _ h => h.elim) W _ noNames args ⟨fun _ _ => rfl, fun id B A' hid => (by simp [ofHeap, look] at hid), fun i j b s t h => (by cases h), fun b hb => hb, hΓ⟩ hv).mono ?_
  rintro e W' ⟨cv, G', ρ', k', r, H', rfl, ⟨rfl, rfl, rfl⟩, _, _, hvr, hst⟩
  have e1 : cv = .bool b := by cases hvr; rfl
  subst e1
  exact ⟨rfl, hst.os, hst.tape, hst.output, hst.size, fun k hk => hst.keep k hk (fun ⟨_, _, h⟩ => by cases h)⟩
theorem row_both {H : Type} {enc : TypeId × Value → H} {a : Assume} {C : Checked} {os : Go.Os} {f : FuncId} {fn : Func} {s : ChangeSpec} {conds : List PathCond} {apart fresh handsOn again : Bool} {X : World → Array Value → Prop}
    (hX : ∀ (w w' : World) (args : Array Value), w.heap = w'.heap → X w args → X w' args)
    (own : ownKnob C.prog.godebug = none) (started : os.Started) (noInit : C.prog.inits.idxOf? f = none) (hfn : C.prog.funcs[f]? = some fn)
    (witness : ∃ (w : World) (tape : Tape) (i : Input), w.os = os ∧ (w.forCall tape i).Shaped C.prog ∧ i.vars = [] ∧ Input.okWide C.prog (w.forCall tape i) .any w.heap.size f i ∧
      ((s.pre enc C.prog fn conds apart (w.forCall tape i).memory i.args ∧ X (w.forCall tape i).memory i.args) ∧ sizedMet enc C.prog fn (OpenSpec.ofChange s) apart (w.forCall tape i).memory i.args) ∧ a.holds C.prog (lone (Frame.enter C.prog f i.args .normal) [] (w.forCall tape i)))
    (contract : ∀ (W : World) (base : Nat) (args : Array Value) (ds gs : List (DataW H)) (before : List MemPlace),
      (∀ (j : Nat) t v, fn.params[j]? = some t → args[j]? = some v → Value.okWide C.prog W .any base t v) →
      DataW.Whole enc C.prog fn.params.toList s.vars apart W args.toList ds gs before → W.ShapedOpen C.prog → X W args →
      Calls C.prog f args W fun e W' => ∃ v, e = .returned v ∧ s.post enc C.prog fn apart fresh handsOn again W args v W') :
    ReturnsInHanded a C os f .any (fun w args => (s.pre enc C.prog fn conds apart w args ∧ X w args) ∧ sizedMet enc C.prog fn (OpenSpec.ofChange s) apart w args) (s.post enc C.prog fn apart fresh handsOn again) := by
  refine returnsInHanded_of_calls own started noInit witness ?_
  intro w tape i _ hsh _ hok hpre hholds
  obtain ⟨_, _, _, fn', hfn', _, _, _, _, hval⟩ := hok
  have e : fn' = fn := Option.some.inj (hfn'.symm.trans hfn)
  subst e
  obtain ⟨⟨⟨ds, gs, before, hw, hc⟩, hx⟩, hz⟩ := hpre
  have hw' := DataW.Whole.of_heap (w' := w.forCall tape i) (by rfl) hw
  refine (contract (w.forCall tape i) w.heap.size i.args ds gs before hval hw' hsh (hX _ _ _ (by rfl) hx)).mono fun e W' ⟨v, he, hp⟩ => ?_
  subst he
  exact ChangeSpec.post_blind hp
end Go.AM
end
section
namespace Go.Proofs.T
open Go Go.AM Go.Proofs Go.ChangeMaps Go.ChangeShapes Go.WideShapes Go.ChangeAt Go.WideMaps Go.WideElems Go.RowKit Go.Proofs.YteimiejbhhgljaaGreatDoor
set_option maxRecDepth 100000
theorem deltaTells {Γ : List (Nat × List AVal)} (hG : GT Γ) (a b : St) (hk : Kinds a) (hk' : Kinds b) : AM.Pure Tryz.prog Γ 3 [.agg a.cells, .agg b.cells] (.lit (.bool true)) := deltaTellsW (awake35 hG) a b hk hk'
theorem rowES (u : TypeId) (h : Tryz.prog.typeName? 3 u = some "*errors.errorString") : u = 353 := by
  have star : "*" ++ "errors.errorString" = "*errors.errorString" := by decide
  exact typeName_ptr_named (nm := "errors.errorString") (by rw [star]; kernel_rfl) (by kernel_rfl) (by decide) u (by rw [star]; exact h)
theorem gt_of {W : World} (hL : laidMetH Tryz.prog Rows.deltaTellsRow.laid W) (hsh : W.ShapedOpen Tryz.prog) : ∃ Γ, GT Γ ∧ ∀ g cells, AM.look Γ g = some cells → GlobIs W (fun b => b < W.heap.size) g cells := by
  have h1 : laidMet Tryz.prog [("internal/strconv.uint64pow10", Lib.tabData .u64 Lib.pow10Tab)] W := laidMetH.filter (fun x => x.1 == "internal/strconv.uint64pow10") hL
  have h2 : laidMet Tryz.prog [("strconv.ErrSyntax", Rows.laid_strconv_ErrSyntax)] W := laidMetH.filter (fun x => x.1 == "strconv.ErrSyntax") hL
  have h3 : laidMet Tryz.prog [("strconv.ErrRange", Rows.laid_strconv_ErrRange)] W := laidMetH.filter (fun x => x.1 == "strconv.ErrRange") hL
  have t1 := Lib.tabIs_of_head (g := 3) (by kernel_rfl) rfl rfl rfl (by kernel_rfl) (by kernel_rfl) h1
  obtain ⟨a2, _, v2, -, -, -⟩ := laid_sentinel (g := 0) h2 (by kernel_rfl) (by kernel_rfl) Tryz.underlying216 rowES Tryz.underlying353 Tryz.underlying355 rfl rfl Tryz.underlying9 (by kernel_rfl) (by kernel_rfl)
  obtain ⟨a3, _, v3, -, -, -⟩ := laid_sentinel (g := 1) h3 (by kernel_rfl) (by kernel_rfl) Tryz.underlying216 rowES Tryz.underlying353 Tryz.underlying355 rfl rfl Tryz.underlying9 (by kernel_rfl) (by kernel_rfl)
  have g1 : GlobIs W (fun b => b < W.heap.size) 3 (Lib.pow10Tab.map fun z => .lit (.int .u64 z)) := by
    have := globIs_var (g := 3) (cs := Lib.pow10Tab.map fun z => Value.int .u64 z) (by kernel_rfl) t1
    rw [List.map_map] at this
    exact this
  have g2 := globIs_var (g := 0) (cs := [Value.iface 353 (.pointer (some a2))]) (by kernel_rfl) v2
  have g3 := globIs_var (g := 1) (cs := [Value.iface 353 (.pointer (some a3))]) (by kernel_rfl) v3
  obtain ⟨m, g4⟩ := globIs_int (g := 2) (t := 3) (k := .i64) (zero := #[.int .i64 0]) hsh (of_decide_eq_true (by kernel_rfl)) (by kernel_rfl) rfl (by kernel_rfl) (by kernel_rfl) Tryz.underlying3
  refine ⟨[(3, Lib.pow10Tab.map fun z => .lit (.int .u64 z)), (0, [.lit (.iface 353 (.pointer (some a2)))]), (1, [.lit (.iface 353 (.pointer (some a3)))]), (2, [.lit (.int .i64 m)])], ⟨rfl, ⟨_, _, rfl⟩, ⟨_, _, rfl⟩, ⟨_, rfl⟩⟩, fun g cells hg => ?_⟩
  simp only [AM.look] at hg
  split at hg
  · rename_i e; subst e; cases hg; exact g1
  split at hg
  · rename_i e; subst e; cases hg; exact g2
  split at hg
  · rename_i e; subst e; cases hg; exact g3
  split at hg
  · rename_i e; subst e; cases hg; exact g4
  · cases hg
end Go.Proofs.T
end
section
namespace Go.Proofs.T
open Go Go.Proofs Go.Proofs.YteimiejbhhgljaaGreatDoor
set_option maxRecDepth 100000
theorem jf0 : (Rows.deltaTellsRow.wf (OpenSpec.ofChange Rows.deltaTellsSpec)) = true := by kernel_rfl
theorem jf1 : (laidOutB Tryz.prog) = true := by kernel_rfl
theorem jf2 : (mapsRowed Tryz.prog) = true := by kernel_rfl
theorem jf3 : (Tryz.f3.params.all (Tryz.prog.readableRec ·)) = true := by kernel_rfl
theorem jf4 : (namedTie Tryz.prog Rows.deltaTellsRow.named Rows.deltaTellsSpec.vars) = true := by kernel_rfl
theorem jf5 : ((Rows.deltaTellsRow.stops == [])) = true := by kernel_rfl
theorem jf6 : ((Tryz.prog.stops == [])) = true := by kernel_rfl
theorem jf7 : ((Rows.deltaTellsRow.knobs == [])) = true := by kernel_rfl
theorem jf8 : ((Tryz.prog.stopKnobs == [])) = true := by kernel_rfl
theorem jf9 : ((Rows.deltaTellsRow.inPlace == Tryz.prog.inPlace 3)) = true := by kernel_rfl
theorem jf10 : ((Rows.deltaTellsRow.unfollowed == Tryz.prog.unfollowed 3)) = true := by kernel_rfl
theorem jf11 : ((Rows.deltaTellsRow.recurses == Tryz.prog.recurses 3)) = true := by kernel_rfl
theorem jf12 : ((Rows.deltaTellsRow.named == Tryz.prog.varsNamed 3)) = true := by kernel_rfl
theorem jf13 : ((Rows.deltaTellsRow.maps == (Tryz.f3.params.toList ++ Rows.deltaTellsSpec.plain.varTypes Tryz.prog).any (Tryz.prog.mapsRec ·))) = true := by kernel_rfl
theorem jf14 : ((Rows.deltaTellsRow.ifaces == (Tryz.f3.params.toList ++ Rows.deltaTellsSpec.plain.varTypes Tryz.prog).any (Tryz.prog.ifacesRec ·))) = true := by kernel_rfl
theorem jf15 : ((Rows.deltaTellsRow.mapsOut == Tryz.prog.mapsAmong Tryz.f3.resultTypes.toList)) = true := by kernel_rfl
theorem jf16 : ((Rows.deltaTellsRow.loops == (Tryz.f3.params.toList ++ Rows.deltaTellsSpec.plain.varTypes Tryz.prog).any (Tryz.prog.loopsFrom ·))) = true := by kernel_rfl
theorem jf17 : ((Rows.deltaTellsRow.wideKeys == (Tryz.f3.params.toList ++ Rows.deltaTellsSpec.plain.varTypes Tryz.prog ++ Tryz.f3.resultTypes.toList).any (Tryz.prog.wideKeysFrom ·))) = true := by kernel_rfl
theorem jf18 : (Rows.deltaTellsSpec.vars.all (Tryz.prog.varReadable ·)) = true := by kernel_rfl
theorem jf19 : (Tryz.f3.resultTypes.all (fun t => Tryz.prog.readableRec t && decide (t < Tryz.prog.types.size))) = true := by kernel_rfl
theorem jf20 : ((Rows.deltaTellsRow.ifacesOut == Tryz.f3.resultTypes.toList.any (Tryz.prog.ifacesRec ·))) = true := by kernel_rfl
theorem jf21 : ((Rows.deltaTellsRow.loopsOut == Tryz.f3.resultTypes.toList.any (Tryz.prog.loopsFrom ·))) = true := by kernel_rfl
theorem jf22 : ((Rows.deltaTellsRow.plainKeys == Tryz.prog.plainKeys)) = true := by kernel_rfl
theorem jf23 : (Rows.deltaTellsRow.shortTexts.isNone) = true := by kernel_rfl
theorem jf24 : (Tryz.prog.stopsHeard) = true := by kernel_rfl
theorem jf25 : (Tryz.prog.mayEnter) = true := by kernel_rfl
theorem jf26 : ((Rows.deltaTellsRow.lifted == Tryz.prog.liftsFinal)) = true := by kernel_rfl
theorem jf27 : ((Tryz.prog.make == some Rows.deltaTellsRow.make)) = true := by kernel_rfl
theorem jf28 : ((Rows.deltaTellsRow.kinds == (if Rows.deltaTellsRow.domain.isEmpty then [] else Tryz.f3.params.toList.map fun t => match Tryz.prog.underlying t with | some (.int k) => some k | _ => none))) = true := by kernel_rfl
theorem jf29 : ((Rows.deltaTellsRow.pinned == Rows.deltaTellsRow.pinnedBy)) = true := by kernel_rfl
theorem jf30 : ((Rows.deltaTellsRow.veiled == (Tryz.f3.params.toList ++ Rows.deltaTellsSpec.plain.varTypes Tryz.prog ++ Tryz.f3.resultTypes.toList).any (Tryz.prog.veiledRec ·))) = true := by kernel_rfl
theorem jf31 : (Rows.deltaTellsRow.veiledFits Tryz.prog Tryz.f3.params.toList (Tryz.f3.params.toList ++ Rows.deltaTellsSpec.plain.varTypes Tryz.prog ++ Tryz.f3.resultTypes.toList)) = true := by kernel_rfl
theorem jf : joinedFacts Tryz.prog 3 Tryz.f3 Rows.deltaTellsSpec Rows.deltaTellsRow = true := by
  unfold joinedFacts
  simp only [Bool.and_eq_true]
  exact ⟨⟨⟨⟨⟨⟨⟨⟨⟨⟨⟨⟨⟨⟨⟨⟨⟨⟨⟨⟨⟨⟨⟨⟨⟨⟨⟨⟨⟨⟨⟨jf0, jf1⟩, jf2⟩, jf3⟩, jf4⟩, jf5⟩, jf6⟩, jf7⟩, jf8⟩, jf9⟩, jf10⟩, jf11⟩, jf12⟩, jf13⟩, jf14⟩, jf15⟩, jf16⟩, jf17⟩, jf18⟩, jf19⟩, jf20⟩, jf21⟩, jf22⟩, jf23⟩, jf24⟩, jf25⟩, jf26⟩, jf27⟩, jf28⟩, jf29⟩, jf30⟩, jf31⟩
end Go.Proofs.T
end
section
namespace Go.Proofs.T
open Go Go.AM Go.Proofs Go.ChangeMaps Go.ChangeShapes Go.WideShapes Go.ChangeAt Go.WideMaps Go.WideElems Go.RowKit Go.Proofs.YteimiejbhhgljaaGreatDoor
set_option maxRecDepth 100000
theorem vs_two {W : World} {G : Nat → Prop} {ρ : Names} {A : Allow} {v v' : AVal} {c c' : Value} (h : V W G ρ A v c) (h' : V W G ρ A v' c') : Vs W G ρ A [v, v'] #[c, c'] :=
  ⟨rfl, fun j u hj => by
    match j with
    | 0 => cases hj; exact h
    | 1 => cases hj; exact h'
    | j + 2 => simp at hj⟩
theorem liftedDT (os : Os) (started : os.Started) (H : Type) (enc : TypeId × Value → H) :
    ReturnsInHanded {} Tryz.checked os 3 .any (fun w args => (Rows.deltaTellsSpec.pre enc Tryz.prog Tryz.f3 [] false w args ∧ laidMetH Tryz.prog Rows.deltaTellsRow.laid w) ∧ sizedMet enc Tryz.prog Tryz.f3 (OpenSpec.ofChange Rows.deltaTellsSpec) false w args)
      (Rows.deltaTellsSpec.post enc Tryz.prog Tryz.f3 false true false false) := by
  refine row_both (C := Tryz.checked) (X := fun w _ => laidMetH Tryz.prog Rows.deltaTellsRow.laid w) (fun _ _ _ hh h => h.of_heap hh) ownK started (by kernel_rfl) Tryz.func3
    (ChangeSpec.witness_shaped (enc := enc) (C := Tryz.checked) (os := os) (X := fun w _ => laidMetH Tryz.prog Rows.deltaTellsRow.laid w) false (World.laidAll Tryz.prog os Rows.deltaTellsRow.laid) #[zeroState, zeroState] 8 (World.laidAll_os _ _ _) (World.shaped_of_ZipB (by kernel_rfl) (by kernel_rfl)) (by kernel_rfl) (by kernel_rfl) (by kernel_rfl)
      (by rw [MakeChecks.laidMetH_plain _ _ _ (by kernel_rfl)]; exact laidMet_laidAll _ (by kernel_rfl) (by kernel_rfl))) ?_
  intro W base args ds gs before hval0 hW hsh hL
  have hval : ∀ (j : Nat) t v, Tryz.f3.params[j]? = some t → args[j]? = some v → Value.okWide Tryz.prog W .any base t v := hval0
  have hW' := hW
  obtain ⟨p, q, hA0, hV, rfl, hfz, hnd⟩ := hW
  have hA : DataW.TrodAll enc Tryz.prog W 0 (fun _ => true) true Tryz.f3.params.toList args.toList ds p := hA0
  rw [Tryz.params3] at hA hval
  obtain ⟨v0, v1, d0, d1, p0, p1, rfl, rfl, rfl, h0, h1⟩ := trodAll_two hA
  obtain ⟨rfl, rfl⟩ := trodVars_none hV
  clear hA0 hval0
  obtain ⟨cs, rfl⟩ := agg_of_ok (hval 0 30 v0 rfl rfl)
  obtain ⟨cs', rfl⟩ := agg_of_ok (hval 1 30 v1 rfl rfl)
  obtain ⟨s, hk, hv⟩ := state_of h0
  obtain ⟨s', hk', hv'⟩ := state_of h1
  obtain ⟨Γ, hG, hΓ⟩ := gt_of hL hsh
  refine (row_callG hΓ (deltaTells hG s s' hk hk') (vs_two hv hv')).mono fun e W' ⟨he, hb⟩ => ?_
  subst he
  have hlt0 : ∀ x ∈ p0, x.block < W.heap.size := fun x hx => hW'.lt x (by simp [hx])
  have hlt1 : ∀ x ∈ p1, x.block < W.heap.size := fun x hx => hW'.lt x (by simp [hx])
  refine ⟨_, rfl, _, _, _, [], p0 ++ p1, [], hW', ?_, ?_, rfl, keptBut_below hb _, fun h => by cases h⟩
  · exact trodAll_mk1 (shut_bool Tryz.underlying4 true)
  · exact trodAll_mk2 (Below.trod laidOut (by kernel_rfl) (of_decide_eq_true (by kernel_rfl)) h0 hb hlt0) (Below.trod laidOut (by kernel_rfl) (of_decide_eq_true (by kernel_rfl)) h1 hb hlt1)
theorem deltaTells_holds : Rows.DeltaTellsSaid :=
  OpenClaim.holds_of_wide 3 Tryz.f3 rfl rfl rfl rfl rfl rfl rfl ⟨rfl, rfl, rfl, rfl, rfl⟩ rfl rfl rfl rfl rfl (by kernel_rfl) Tryz.func3 jf
    (of_decide_eq_true (by kernel_rfl)) (by unfold Func.isWrapper; first | (rw [if_pos (by decide +kernel)]; kernel_rfl) | (rw [if_neg (by decide +kernel)]; exact ⟨rfl, rfl⟩))
    (fun os started H enc _ => liftedDT os started H enc)
end Go.Proofs.T
end
