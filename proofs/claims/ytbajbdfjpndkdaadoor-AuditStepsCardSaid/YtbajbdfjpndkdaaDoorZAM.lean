import Derived.Test.YtbajbdfjpndkdaaDoorZAL
import Derived.RangeFuncRecord
import Derived.WalkKit
import Derived.TacticsIn
import Derived.BigFrameIn
import Derived.ChangeArms
import Derived.DataReads
import Derived.Carry
import Derived.ProofKit
import Derived.LaidMore
import Derived.OpenShut
import Derived.Stop.Joined
import Derived.Test.YtbajbdfjpndkdaaDoorRows

section
set_option linter.unusedVariables false
set_option linter.unusedSimpArgs false
namespace Go.Proofs.T
open Go Go.AM Go.Proofs Go.RowKit
set_option linter.unusedSimpArgs false
set_option linter.unusedVariables false
attribute [local go_sem] Oper.semAt_some
noncomputable def dBody : Code := match Tryd.f70.body with
  | some (.seq _ (.seq _ (.seq (.seq _ (.block _ (.rangeFunc _ _ _ b))) _))) => b
  | _ => .skip
noncomputable def dRec (fn : FuncId) (sl : Value) (g : Int) (N : Nat) (st : LoopState) (pend : Option Code) : Loop :=
  { state := st, pending := pend, fn, tmps := #[sl, .int .i64 g, undef, undef, .int .i64 0, .pointer (some ⟨N, 0, none⟩), sl, .int .i64 g, .func (.func 93) #[] #[.pointer (some ⟨N + 2, 0, none⟩), .pointer (some ⟨N + 1, 0, none⟩)], undef, undef, undef, undef], params := #[9], assign := .skip, body := dBody, defers := N + 3 }
structure DMid (fn : FuncId) (sl : Value) (g : Int) (w : World) (x y : Int) (W : World) : Prop where
  c : W.cell? ⟨w.heap.size, 0, none⟩ = some (.int .i64 x)
  f : W.frozen? ⟨w.heap.size, 0, none⟩ = false
  cl : W.cell? ⟨w.heap.size + 1, 0, none⟩ = some sl
  cg : W.cell? ⟨w.heap.size + 2, 0, none⟩ = some (.int .i64 y)
  fg : W.frozen? ⟨w.heap.size + 2, 0, none⟩ = false
  L : W.heap[w.heap.size + 4]? = some (.loop (dRec fn sl g w.heap.size .ready none))
  K : W.heap[w.heap.size + 3]? = some (.deferred (some []))
  b : Below w.heap.size w W
theorem below_put {B : Nat} {w W : World} (h : Below B w W) {r : Nat} (hr : B ≤ r) (o : Obj) : Below B w (W.putObj r o) :=
  ⟨h.os, h.tape, h.output, by rw [World.putObj_size]; exact h.size, fun k hk => (World.putObj_heap_other (by omega)).trans (h.block k hk)⟩
set_option maxHeartbeats 1000000 in
theorem dRound (F : Fence) (m : Nat) (fn : FuncId) (hfn : F.fn fn) (sl : Value) (g : Int) (w : World) (x y : Int) (hx : -1 ≤ x) (hx2 : x ≤ 100000) (W : World) (h : DMid fn sl g w x y W) :
    RoundIn F m Tryd.prog (w.heap.size + 4) fn #[sl, .int .i64 g, undef, undef, .int .i64 0, .pointer (some ⟨w.heap.size, 0, none⟩), sl, .int .i64 g, .func (.func 93) #[] #[.pointer (some ⟨w.heap.size + 2, 0, none⟩), .pointer (some ⟨w.heap.size + 1, 0, none⟩)], .int .i64 y, undef, undef, undef] .skip dBody W
      fun e W' => e = .returned (.bool true) ∧ DMid fn sl g w (x + 1) y W' := by
  refine roundIn_of_wpIn hfn ?_
  have hl : w.heap.size + 4 < W.heap.size := (Array.getElem?_eq_some_iff.1 h.L).1
  have hbr := run_beginRound (P := Tryd.prog) h.L rfl
  obtain ⟨W2, hW2⟩ : ∃ W2, W.putObj (w.heap.size + 4) (.loop { dRec fn sl g w.heap.size .ready none with state := .busy }) = W2 := ⟨_, rfl⟩
  rw [hW2] at hbr
  have hk : ∀ k, k ≠ w.heap.size + 4 → W2.heap[k]? = W.heap[k]? := fun k hk => by rw [← hW2]; exact World.putObj_heap_other hk
  have hc2 : W2.cell? ⟨w.heap.size, 0, none⟩ = some (.int .i64 x) := (World.cell?_of_block (hk w.heap.size (by omega))).trans h.c
  have hf2 : W2.frozen? ⟨w.heap.size, 0, none⟩ = false := (World.frozen?_of_block (hk w.heap.size (by omega))).trans h.f
  have hL2 : W2.heap[w.heap.size + 4]? = some (.loop { dRec fn sl g w.heap.size .ready none with state := .busy }) := by rw [← hW2]; exact World.putObj_heap_same hl
  have hb2 : Below w.heap.size w W2 := by rw [← hW2]; exact below_put h.b (by omega) _
  clear hW2
  have hwr : wrap64 (x + 1) = x + 1 := by unfold wrap64; omega
  gi_wp2
  conv in dBody => whnf
  gi_wp2
  have hk3 : ∀ k, k ≠ w.heap.size → (W2.setCell ⟨w.heap.size, 0, none⟩ (.int .i64 (x + 1))).heap[k]? = W2.heap[k]? := fun k hk => Below.heap_setCell W2 ⟨w.heap.size, 0, none⟩ _ k hk
  have hL3 := (hk3 (w.heap.size + 4) (by omega)).trans hL2
  have hl3 := (Array.getElem?_eq_some_iff.1 hL3).1
  have hall : ∀ (o : Obj) (k : Nat), k ≠ w.heap.size → k ≠ w.heap.size + 4 → ((W2.setCell ⟨w.heap.size, 0, none⟩ (.int .i64 (x + 1))).putObj (w.heap.size + 4) o).heap[k]? = W.heap[k]? := fun o k h1 h2 =>
    (World.putObj_heap_other h2).trans ((hk3 k h1).trans (hk k h2))
  refine ⟨_, _, run_endRound none hL3, rfl, ?_, ?_, ?_, ?_, ?_, ?_, ?_, ?_⟩
  · exact (World.cell?_of_block (World.putObj_heap_other (k := w.heap.size) (by omega))).trans (World.cell?_setCell_same' _ _ _ (by rw [hc2]; rfl))
  · exact (World.frozen?_of_block (World.putObj_heap_other (k := w.heap.size) (by omega))).trans (by rw [World.frozen?_setCell]; exact hf2)
  · exact (World.cell?_of_block (hall _ (w.heap.size + 1) (by omega) (by omega))).trans h.cl
  · exact (World.cell?_of_block (hall _ (w.heap.size + 2) (by omega) (by omega))).trans h.cg
  · exact (World.frozen?_of_block (hall _ (w.heap.size + 2) (by omega) (by omega))).trans h.fg
  · exact World.putObj_heap_same hl3
  · exact (hall _ _ (by omega) (by omega)).trans h.K
  · exact below_put (hb2.setCell (p := ⟨w.heap.size, 0, none⟩) (Nat.le_refl _) _) (by omega) _
theorem pdep_le (par : Nat → Int) : ∀ f g, pdep par f g ≤ f
  | 0, g => by simp [pdep]
  | f + 1, g => by
    rw [pdep]
    split
    · omega
    · have := pdep_le par f (par g).toNat; omega
structure Pars (w : World) (b o cap n : Nat) (par : Nat → Int) : Prop where
  lt : b < w.heap.size
  at_ : ∀ i, i < n → w.cell? ⟨b, o + i * 2, none⟩ = some (.int .i64 (par i))
noncomputable def dMu (N : Nat) (W : World) : Nat := match W.cell? ⟨N + 2, 0, none⟩ with
  | some (.int _ y) => y.toNat
  | _ => 0
theorem Pars.get {w W : World} {b o cap n : Nat} {par : Nat → Int} (h : Pars w b o cap n par) (hb : Below w.heap.size w W) (i : Nat) (hi : i < n) : W.cell? ⟨b, o + i * 2, none⟩ = some (.int .i64 (par i)) :=
  (World.cell?_of_block (hb.block b h.lt)).trans (h.at_ i hi)
set_option maxHeartbeats 1000000 in
theorem upIter (F : Fence) (n : Nat) (hF : F.fn 93) (hro : F.round = none) (hn : 1 ≤ n) (fn : FuncId) (hfn : F.fn fn) (w : World) (b o cap N : Nat) (par : Nat → Int) (hp : Pars w b o cap N par) (g : Nat) (hg : g < N) (hN : N ≤ 1000) (hv : ∀ j, 1 ≤ j → j ≤ g → 0 ≤ par j ∧ par j < j)
    (W : World) (h : DMid fn (.slice (some ⟨b, o, none⟩) N cap) g w (-1) g W) :
    CallsIn F n Tryd.prog 93 #[.func (.yield (w.heap.size + 4)) #[] #[], .pointer (some ⟨w.heap.size + 2, 0, none⟩), .pointer (some ⟨w.heap.size + 1, 0, none⟩)] W fun e W' => (∃ v, e = .returned v) ∧ ∃ y, DMid fn (.slice (some ⟨b, o, none⟩) N cap) g w (pdep par g g) y W' := by
  refine callsIn_of_wp Tryd.func93 rfl hF ?_ hro
  simp only [Tryd.ntmps93, List.size_toArray, List.length_cons, List.length_nil, Nat.reduceAdd, Nat.reduceSub, Array.replicate_succ, Array.replicate_zero, List.push_toArray, List.append_toArray, List.nil_append, List.cons_append]
  refine wpIn_block ?_
  refine wpIn_loop (fun a' W' => ∃ (y : Nat) (x : Int) (x4 x5 x6 x7 x8 x9 x10 x11 x12 x13 x14 x15 : Value), a' = { tmps := #[.func (.yield (w.heap.size + 4)) #[] #[], .pointer (some ⟨w.heap.size + 2, 0, none⟩), .pointer (some ⟨w.heap.size + 1, 0, none⟩), undef, x4, x5, x6, x7, x8, x9, x10, x11, x12, x13, x14, x15], defers := [] } ∧ y ≤ g ∧ -1 ≤ x ∧ x + 1 + pdep par y y = pdep par g g ∧ DMid fn (.slice (some ⟨b, o, none⟩) N cap) g w x y W') (fun _ W' => dMu w.heap.size W') ⟨g, -1, _, _, _, _, _, _, _, _, _, _, _, _, rfl, Nat.le_refl _, by omega, by omega, h⟩ ?_
  rintro a' W' ⟨y, x, x4, x5, x6, x7, x8, x9, x10, x11, x12, x13, x14, x15, rfl, hy, hx, hs, h'⟩
  have hpd : pdep par g g ≤ 1000 := Nat.le_trans (pdep_le par g g) (by omega)
  have hy1 : (Instr.yield (w.heap.size + 4) #[.int .i64 (y : Int)]).run Tryd.prog W' = .ok (.round (w.heap.size + 4) fn #[.slice (some ⟨b, o, none⟩) N cap, .int .i64 (g : Int), undef, undef, .int .i64 0, .pointer (some ⟨w.heap.size, 0, none⟩), .slice (some ⟨b, o, none⟩) N cap, .int .i64 (g : Int), .func (.func 93) #[] #[.pointer (some ⟨w.heap.size + 2, 0, none⟩), .pointer (some ⟨w.heap.size + 1, 0, none⟩)], .int .i64 (y : Int), undef, undef, undef] .skip dBody) W' := by
    simpa [dRec] using run_yield (P := Tryd.prog) (args := #[.int .i64 (y : Int)]) h'.L rfl
  have hmu : dMu w.heap.size W' = y := by unfold dMu; rw [h'.cg]; simp
  have hcg := h'.cg
  have hcl := h'.cl
  by_cases hy0 : 0 < (y : Int)
  · gi_wp2
    refine (dRound F (n - 1) fn hfn _ g w x y hx (by omega) W' h').mono ?_
    rintro e W1 ⟨rfl, h1⟩
    have hcg := h1.cg
    have hfg := h1.fg
    have hcl := h1.cl
    have hpar := hp.get h1.b y (by omega)
    gi_wp2
    obtain ⟨q, hq⟩ : ∃ q : Nat, par y = q := ⟨(par y).toNat, by have := hv y (by omega) hy; omega⟩
    have hv' := hv y (by omega) hy
    rw [hq] at hv' ⊢
    have hk : ∀ k, k ≠ w.heap.size + 2 → (W1.setCell ⟨w.heap.size + 2, 0, none⟩ (.int .i64 (q : Int))).heap[k]? = W1.heap[k]? := fun k hk => Below.heap_setCell W1 ⟨w.heap.size + 2, 0, none⟩ _ k hk
    have hc' : (W1.setCell ⟨w.heap.size + 2, 0, none⟩ (.int .i64 (q : Int))).cell? ⟨w.heap.size + 2, 0, none⟩ = some (.int .i64 (q : Int)) := World.cell?_setCell_same' _ _ _ (by rw [hcg]; rfl)
    refine ⟨⟨q, x + 1, _, _, _, _, _, _, _, _, _, _, _, _, rfl, by omega, by omega, ?_, ?_⟩, ?_⟩
    · obtain ⟨y', hy'⟩ : ∃ y', y = y' + 1 := ⟨y - 1, by omega⟩
      subst hy'
      rw [pdep, if_neg (by omega), hq, Int.toNat_natCast, pdep_fuel y' q (by omega) (fun j h1 h2 => hv j h1 (by omega))] at hs
      omega
    · refine ⟨?_, ?_, ?_, hc', ?_, ?_, ?_, ?_⟩
      · exact (World.cell?_of_block (hk w.heap.size (by omega))).trans h1.c
      · exact (World.frozen?_of_block (hk w.heap.size (by omega))).trans h1.f
      · exact (World.cell?_of_block (hk (w.heap.size + 1) (by omega))).trans h1.cl
      · rw [World.frozen?_setCell]; exact h1.fg
      · exact (hk _ (by omega)).trans h1.L
      · exact (hk _ (by omega)).trans h1.K
      · exact h1.b.setCell (p := ⟨w.heap.size + 2, 0, none⟩) (Nat.le_add_right _ _) _
    · rw [hmu]; unfold dMu; rw [hc']; simp only [Int.toNat_natCast]; omega
  · gi_wp2
    refine (dRound F (n - 1) fn hfn _ g w x y hx (by omega) W' h').mono ?_
    rintro e W1 ⟨rfl, h1⟩
    have hcg := h1.cg
    gi_wp2
    first | go_end0 | go_ret
    obtain rfl : y = 0 := by omega
    refine ⟨⟨_, rfl⟩, (0 : Nat), ?_⟩
    rw [pdep] at hs
    rw [← hs]
    simpa using h1
theorem up_in (F : Fence) (n : Nat) (h83 : F.fn 83) (hro : F.round = none) (ad : Option Addr) (N cap : Nat) (g : Int) (W : World) :
    CallsIn F n Tryd.prog 83 #[.slice ad N cap, .int .i64 g] W fun e W' => e = .returned (.func (.func 93) #[] #[.pointer (some ⟨W.heap.size + 1, 0, none⟩), .pointer (some ⟨W.heap.size, 0, none⟩)]) ∧ ∃ t1 t2, W' = (W.alloc (.cells #[.slice ad N cap] t1)).alloc (.cells #[.int .i64 g] t2) := by
  refine callsIn_of_wp Tryd.func83 rfl h83 ?_ hro
  simp only [Tryd.ntmps83, List.size_toArray, List.length_cons, List.length_nil, Nat.reduceAdd, Nat.reduceSub, Array.replicate_succ, Array.replicate_zero, List.push_toArray, List.append_toArray, List.nil_append, List.cons_append]
  gi_wp2
  first | go_end0 | go_ret
  exact ⟨rfl, _, _, rfl⟩
set_option maxHeartbeats 1000000 in
theorem depth_in (F : Fence) (n : Nat) (h70 : F.fn 70) (h83 : F.fn 83) (h93 : F.fn 93) (hro : F.round = none) (hn : 2 ≤ n) (w : World) (b o cap N : Nat) (par : Nat → Int) (hp : Pars w b o cap N par) (g : Nat) (hg : g < N) (hN : N ≤ 1000) (hv : ∀ j, 1 ≤ j → j ≤ g → 0 ≤ par j ∧ par j < j) :
    CallsIn F n Tryd.prog 70 #[.slice (some ⟨b, o, none⟩) N cap, .int .i64 (g : Int)] w fun e W' => e = .returned (.int .i64 (pdep par g g : Nat)) ∧ Below w.heap.size w W' := by
  refine callsIn_of_wp_marks Tryd.func70 rfl h70 ?_ hro
  simp only [Tryd.ntmps70, List.size_toArray, List.length_cons, List.length_nil, Nat.reduceAdd, Nat.reduceSub, Array.replicate_succ, Array.replicate_zero, List.push_toArray, List.append_toArray, List.nil_append, List.cons_append]
  gi_wp2
  refine ⟨fun _ => by omega, (up_in F (n - 1) h83 hro _ _ _ g _).mono ?_⟩
  rintro e W0 ⟨rfl, t1, t2, hW0⟩
  simp only [World.size_alloc] at hW0 ⊢
  have hs0 : W0.heap.size = w.heap.size + 3 := by rw [hW0]; simp
  have hb0 : Below w.heap.size w W0 := by
    rw [hW0]
    exact (((Below.refl _ w).alloc (Nat.le_refl _) _).alloc (by simp) _).alloc (by simp; omega) _
  have hh : W0.heap[w.heap.size]? = some (.cells #[.int .i64 (-1)] 3) ∧ W0.heap[w.heap.size + 1]? = some (.cells #[.slice (some ⟨b, o, none⟩) N cap] t1) ∧ W0.heap[w.heap.size + 2]? = some (.cells #[.int .i64 (g : Int)] t2) := by
    rw [hW0]
    refine ⟨?_, ?_, ?_⟩
    · exact (Below.heap_alloc _ _ _ (by simp; omega)).trans ((Below.heap_alloc _ _ _ (by simp)).trans (World.alloc_heap_new w _))
    · refine (Below.heap_alloc _ _ _ (by simp)).trans ?_
      have := World.alloc_heap_new (w.alloc (.cells #[.int .i64 (-1)] 3)) (.cells #[.slice (some ⟨b, o, none⟩) N cap] t1)
      rwa [World.size_alloc] at this
    · have := World.alloc_heap_new ((w.alloc (.cells #[.int .i64 (-1)] 3)).alloc (.cells #[.slice (some ⟨b, o, none⟩) N cap] t1)) (.cells #[.int .i64 (g : Int)] t2)
      rwa [World.size_alloc, World.size_alloc] at this
  clear hW0
  obtain ⟨hh0, hh1, hh2⟩ := hh
  gi_wp2
  refine wpIn_rangeFunc ?_
  intro fn hfn
  rw [hro]
  obtain ⟨W1, hW1⟩ : ∃ W1, (W0.alloc (.deferred (some []))).alloc (.loop (dRec fn (.slice (some ⟨b, o, none⟩) N cap) g w.heap.size .ready none)) = W1 := ⟨_, rfl⟩
  have hold : ∀ k, k < W0.heap.size → W1.heap[k]? = W0.heap[k]? := fun k hk => by
    rw [← hW1]; exact (Below.heap_alloc _ _ k (by simp; omega)).trans (Below.heap_alloc _ _ k hk)
  have hM : DMid fn (.slice (some ⟨b, o, none⟩) N cap) g w (-1) g W1 := by
    have e0 := (hold w.heap.size (by omega)).trans hh0
    have e1 := (hold (w.heap.size + 1) (by omega)).trans hh1
    have e2 := (hold (w.heap.size + 2) (by omega)).trans hh2
    refine ⟨by simp [World.cell?, e0], by simp [World.frozen?, e0], by simp [World.cell?, e1], by simp [World.cell?, e2], by simp [World.frozen?, e2], ?_, ?_, ?_⟩
    · rw [← hW1]; have := World.alloc_heap_new (W0.alloc (.deferred (some []))) (.loop (dRec fn (.slice (some ⟨b, o, none⟩) N cap) g w.heap.size .ready none)); rwa [World.size_alloc, hs0] at this
    · rw [← hW1, ← hs0]; exact (Below.heap_alloc _ _ _ (by simp)).trans (World.alloc_heap_new W0 _)
    · rw [← hW1]; exact (hb0.alloc (by omega) _).alloc (by simp; omega) _
  refine ⟨w.heap.size + 4, [{ target := .collected (w.heap.size + 3), args := #[] }], W1, { target := .fn (.func 93) #[.pointer (some ⟨w.heap.size + 2, 0, none⟩), .pointer (some ⟨w.heap.size + 1, 0, none⟩)], args := #[.func (.yield (w.heap.size + 4)) #[] #[]] }, W1, 93,
    #[.func (.yield (w.heap.size + 4)) #[] #[], .pointer (some ⟨w.heap.size + 2, 0, none⟩), .pointer (some ⟨w.heap.size + 1, 0, none⟩)], W1, ?_, ?_, ?_, ?_, fun _ => by omega, ?_⟩
  · have := run_enterLoop_outer (P := Tryd.prog) (w := W0) fn (dRec fn (.slice (some ⟨b, o, none⟩) N cap) g w.heap.size .ready none).tmps #[9] .skip dBody
    rw [hs0] at this
    rw [← hW1]; exact this
  · simp [resolve, go_sem]
  · intro f' hf'; simp [Target.leads] at hf'; subst hf'; exact h93
  · simp [invoke, go_sem]
  · refine (upIter F (n - 1) h93 hro (by omega) fn hfn w b o cap N par hp g hg hN hv W1 hM).mono ?_
    rintro e W2 ⟨⟨v, rfl⟩, y, h2⟩
    have hend := run_endLoop (P := Tryd.prog) h2.L (by simp [dRec])
    obtain ⟨W3, hW3⟩ : ∃ W3, W2.putObj (w.heap.size + 4) (.loop { dRec fn (.slice (some ⟨b, o, none⟩) N cap) g w.heap.size .ready none with state := .exhausted }) = W3 := ⟨_, rfl⟩
    rw [hW3] at hend
    have hc3 : W3.cell? ⟨w.heap.size, 0, none⟩ = some (.int .i64 (pdep par g g : Nat)) := by rw [← hW3]; exact (World.cell?_of_block (World.putObj_heap_other (k := w.heap.size) (by omega))).trans h2.c
    have hK3 : W3.heap[w.heap.size + 3]? = some (.deferred (some [])) := by rw [← hW3]; exact (World.putObj_heap_other (by omega)).trans h2.K
    have hb3 : Below w.heap.size w W3 := by rw [← hW3]; exact below_put h2.b (by omega) _
    clear hW3
    refine ⟨none, W3, hend, ?_⟩
    gi_wp2
    refine ⟨by simp, .inl ⟨_, _, rfl, run_takeDeferred hK3, ?_⟩⟩
    exact ⟨_, results_tmp rfl _ _ _, rfl, below_put hb3 (by omega) _⟩
theorem depth_calls (w : World) (b o cap N : Nat) (par : Nat → Int) (hp : Pars w b o cap N par) (g : Nat) (hg : g < N) (hN : N ≤ 1000) (hv : ∀ j, 1 ≤ j → j ≤ g → 0 ≤ par j ∧ par j < j) :
    Calls Tryd.prog 70 #[.slice (some ⟨b, o, none⟩) N cap, .int .i64 (g : Int)] w fun e W' => e = .returned (.int .i64 (pdep par g g : Nat)) ∧ Below w.heap.size w W' :=
  callsIn_wide.1 (depth_in Fence.wide 2 trivial trivial trivial rfl (Nat.le_refl _) w b o cap N par hp g hg hN hv)
theorem below_shape {w w' : World} (h : Below w.heap.size w w') (b : Nat) (hb : b < w.heap.size) : w'.shape? b = w.shape? b := by
  unfold World.shape?
  rw [h.block b hb]
theorem pure_of_below {Γ : List (Nat × List AVal)} {w w' : World} {G : Nat → Prop} {ρ : Names} {A : Allow} {k : Nat} (hr : HRel Γ w G ρ (ofHeap [] A)) (h : Below w.heap.size w w') :
    HRel Γ w' G ρ (ofHeap [] (alw A k k)) ∧ Step (below k) w G ρ w' G ρ := by
  have hn : ∀ id, ρ id = none := fun id => hr.dom id rfl
  have hst : Step (below k) w G ρ w' G ρ := ⟨h.size, fun b hb _ => h.block b hb, fun b hb => below_shape h b hb, fun _ h => h, fun _ h => .inl h, fun _ h => .inl h, fun _ _ => .inr rfl, h.os, h.tape, h.output⟩
  refine ⟨⟨fun id _ => hn id, fun id B A' hid => by simp [ofHeap, AM.look] at hid, hr.inj, fun b hb => Nat.lt_of_lt_of_le (hr.ro b hb) h.size, ?_⟩, hst⟩
  exact glob_step hr hst
theorem depthOk (Γ : List (Nat × List AVal)) : DepthOk Γ := by
  intro s n g hg hn hv k A hA w G ρ cargs hr hvs
  obtain ⟨hlen, hvv⟩ := hvs
  have h0 := hvv 0 _ rfl
  have h1 := hvv 1 _ rfl
  have hc2 : cargs = #[cargs.getD 0 undef, cargs.getD 1 undef] := by
    have hsz : cargs.size = 2 := hlen.symm
    apply Array.ext
    · simp [hsz]
    · intro i hi1 hi2
      match i with
      | 0 => simp [Array.getD, hsz]
      | 1 => simp [Array.getD, hsz]
      | i + 2 => omega
  have e1 : cargs.getD 1 undef = .int .i64 (g : Int) := by
    generalize cargs.getD 1 undef = x at h1
    cases h1; rfl
  obtain ⟨b, o, cap, e0, hp⟩ : ∃ b o cap, cargs.getD 0 undef = .slice (some ⟨b, o, none⟩) n cap ∧ Pars w b o cap n s.par := by
    generalize cargs.getD 0 undef = x at h0
    cases h0 with
    | rd0 => omega
    | rd gv hb hcap hnm hl hc hv' =>
      refine ⟨_, _, _, rfl, hr.ro _ hb, fun i hi => ?_⟩
      have h2 := hc i 0 _ hi rfl
      have h3 := hv' i 0 _ hi rfl
      rw [Nat.add_zero] at h2
      rw [h2]
      generalize gv i 0 = z at h3
      cases h3; rfl
  rw [hc2, e0, e1]
  refine (depth_calls w b o cap n s.par hp g hg hn hv).mono ?_
  rintro e w' ⟨rfl, hbl⟩
  obtain ⟨q1, q2⟩ := pure_of_below (k := k) hr hbl
  exact ⟨_, G, ρ, k, _, [], rfl, ⟨rfl, rfl, rfl⟩, Nat.le_refl _, q1, .lit, q2⟩
end Go.Proofs.T
end

section
set_option linter.unusedVariables false
set_option linter.unusedSimpArgs false
namespace Go.Proofs.T
open Go Go.AM Go.Proofs
set_option linter.unusedSimpArgs false
set_option linter.unusedVariables false
set_option maxRecDepth 4000
variable {Γ : List (Nat × List AVal)}
structure Kinds (s : St) : Prop where
  wf : Wf s
  v0 : ∀ g c, 0 ≤ (s.sp g c).v
theorem check_perm (s : St) (hk : Kinds s) (h12 : s.ns ≤ 12) (hr : refCfg s = true) : (checkR s).Perm (checkA s) := by
  unfold checkR checkA
  rw [if_neg (by rw [hr]; simp), shapeA_eq]
  by_cases h1 : 0 < (shapesL s).length
  · rw [if_pos h1, if_pos h1]
  · rw [if_neg h1, if_neg h1]
    obtain ⟨hp, hpar⟩ := ref_ok h12 hr (by omega)
    have hpp := parts_perm s hk.wf hk.v0 hp
    have hpl : (partsL s).length = (partsA s).length := hpp.length_eq
    rw [hpl]
    by_cases h2 : 0 < (partsA s).length
    · rw [if_pos h2, if_pos h2]; exact hpp
    · rw [if_neg h2, if_neg h2]
      refine floors_perm s (floorOk s h12 hr (by omega) ?_)
      unfold partsA at h2
      simp only [List.length_append] at h2
      omega
theorem check_eq (s : St) (hq : PreOk s) (hk : Kinds s) : Pure Tryd.prog Γ 11 [.agg s.cells] (rows 3 ((checkR s).map Flt.row)) := by
  refine check (depthOk Γ) s hq (checkR s) (fun h => ?_) (fun h1 h2 h3 => ?_) (fun h => ?_) (fun h => ?_) (fun h => ?_)
  · rw [checkR, ← cfg_eq, if_pos h]
  · rw [cfg_eq] at h1
    rw [shapeA_eq] at h2
    refine floorOk s hq.n12 h1 h2 ?_
    unfold partsA at h3
    simp only [List.length_append] at h3
    omega
  · rw [cfg_eq] at h
    intro f hf
    exact checkR_ok s hq.sm f ((check_perm s hk hq.n12 h).mem_iff.2 hf)
  · rw [cfg_eq] at h
    exact check_perm s hk hq.n12 h
  · exact (checkR_sorted s).imp fun {x y} hxy => (cfF_ge y x).2 hxy
theorem small_pre {s : St} (h : SmallP s) : PreOk s := by
  obtain ⟨h1, h2, h3, h4, h5, h6, h7⟩ := h
  exact ⟨⟨by omega, by omega, by omega, by omega, by omega, fun g hg => by have := h7 g hg; omega⟩, h6, h7⟩
theorem check_ref' (s : St) (hq : PreOk s) (hk : Kinds s) : Pure Tryd.prog Γ 12 [.agg s.cells] (rows 3 ((checkR s).map Flt.row)) :=
  check_ref s hq.sm hk.wf fun h1 h2 => ref_ok hq.n12 h1 h2
theorem checkR_len (s : St) (hq : PreOk s) : (checkR s).length ≤ 100000 := by
  unfold checkR
  by_cases hr : refCfg s = false
  · rw [if_pos hr]; simp
  rw [if_neg hr]
  have hr' : refCfg s = true := by simpa using hr
  have hc := (refCfg_spec hr').1.2.1
  have := hq.sm.nk
  have := hq.sm.nt
  have := hq.n12
  split
  · have := shapeA_len s hq.n12
    rw [shapeA_eq] at this
    omega
  · split
    · unfold partsL
      simp only [List.length_append]
      have h1 := flats_len (f := clockAt s) (m := 1) (fun i => iff1_len1 _ _) s.nk
      have h2 := flats_len (f := brkR s) (m := s.nt) (fun r => by have := flats_len (f := brkAt s r) (m := 1) (fun i => iff1_len1 _ _) s.nt; unfold brkR; omega) 7
      have h3 := flats_len' (f := sptR s) (m := 12) s.ns (fun g hg => by
        have := flats_len (f := sptAt s g) (m := 1) (fun i => iff1_len1 _ _) (s.nsp g)
        have := hq.p12 g hg
        unfold sptR; split
        · simp
        · omega)
      have h4 := flats_len (f := rootAt s) (m := 1) (fun i => iff1_len1 _ _) s.cpus.toNat
      have h5 := flats_len (f := curAt s) (m := 1) (fun i => iff1_len1 _ _) s.cpus.toNat
      omega
    · have h1 := flats_len (f := flrR s) (m := 64) (fun g => by have := flats_len (f := flrAt s g) (m := 1) (fun i => iff1_len1 _ _) s.cpus.toNat; unfold flrR; omega) s.ns
      unfold floorsL; omega
theorem checks (s : St) (hk : Kinds s) : Pure Tryd.prog Γ 5 [.agg s.cells] (.lit (.bool true)) := by
  refine Pure_at Tryd.func5 rfl 19 rfl (Nat.le_of_ble_eq_true rfl) rfl fun k => ?_
  (repeat' (first | (refine C_seq rfl ?_) | (refine C_block rfl ?_) | (refine C_skip rfl ?_; (try simp -dsimp -implicitDefEqProofs only [go_sem, eq_self, ↓reduceIte])) | (refine C_exit rfl ?_; (try simp -dsimp -implicitDefEqProofs only [go_sem, eq_self, ↓reduceIte])) | (refine C_cond rfl _ rfl (fun ht => ?_) (fun ht => ?_) <;> (try (simp only [nf] at ht)) <;> (try (exfalso; omega))) | ((first | (refine S_reg0 rfl [0,1,2,3,6] rfl rfl (fun K hK => ?_)) | (refine S_drw0 rfl [0,1,2,3,6] rfl (by kernel_rfl) rfl (fun K hK => ?_))); simp -dsimp -implicitDefEqProofs only [go_sem, eq_self, ↓reduceIte]; (repeat' (first | (refine And.intro ?_ ?_) | (refine gs_both (fun hb => ?_) (fun hb => ?_) <;> (have hg := hb; (try simp only [nfb] at hg); simp -dsimp -implicitDefEqProofs only [go_sem, hb, hg, eq_self, ↓reduceIte]; clear hb; (try simp only [nfe] at hg))))); any_goals ((first | (refine hK _ _ _ _ (fun hx => ?_)) | (refine hK _ _ _ _ (drawOk_names (fun i => i - k) (by simp only [List.map_cons, List.map_nil, shG, ↓reduceIte, Nat.add_sub_cancel_left, Nat.sub_self]; rfl) (by decide +kernel) (by simp -dsimp -implicitDefEqProofs only [go_sem, eq_self, ↓reduceIte])) (fun hx => ?_)) | (refine hK _ _ _ _ (drawOk_of (by kernel_rfl) (by simp -dsimp -implicitDefEqProofs only [go_sem, eq_self, ↓reduceIte])) (fun hx => ?_))); clear hx hK; simp -dsimp -implicitDefEqProofs only [go_sem, eq_self, ↓reduceIte]; (try simp (disch := omega) only [wrap_i64, wrap_u64, wrap_u32, wrap_u8]))) | omega))
  refine S_reg rfl [0,1,2,3,6] [.ret (.lit (.bool (decide (SmallP s))))] rfl (fun K hK => ?_); simp -dsimp -implicitDefEqProofs only [go_sem, eq_self, ↓reduceIte]; (repeat' (first | (refine And.intro ?_ ?_) | (refine gs_both (fun hb => ?_) (fun hb => ?_) <;> (have hg := hb; (try simp only [nfb] at hg); simp -dsimp -implicitDefEqProofs only [go_sem, hb, hg, eq_self, ↓reduceIte]; clear hb; (try simp only [nfe] at hg))))); (any_goals ((refine hK _ _ _ _ (fun hx => ?_)); clear hx hK; simp -dsimp -implicitDefEqProofs only [go_sem, eq_self, ↓reduceIte]; (try simp (disch := omega) only [wrap_i64, wrap_u64, wrap_u32, wrap_u8]))); (all_goals (try omega))
  · exact small s
  (repeat' (first | (refine C_seq rfl ?_) | (refine C_block rfl ?_) | (refine C_skip rfl ?_; (try simp -dsimp -implicitDefEqProofs only [go_sem, eq_self, ↓reduceIte])) | (refine C_exit rfl ?_; (try simp -dsimp -implicitDefEqProofs only [go_sem, eq_self, ↓reduceIte])) | (refine C_cond rfl _ rfl (fun ht => ?_) (fun ht => ?_) <;> (try (simp only [nf] at ht)) <;> (try (exfalso; omega))) | ((first | (refine S_reg0 rfl [0,1,2,3,6] rfl rfl (fun K hK => ?_)) | (refine S_drw0 rfl [0,1,2,3,6] rfl (by kernel_rfl) rfl (fun K hK => ?_))); simp -dsimp -implicitDefEqProofs only [go_sem, eq_self, ↓reduceIte]; (repeat' (first | (refine And.intro ?_ ?_) | (refine gs_both (fun hb => ?_) (fun hb => ?_) <;> (have hg := hb; (try simp only [nfb] at hg); simp -dsimp -implicitDefEqProofs only [go_sem, hb, hg, eq_self, ↓reduceIte]; clear hb; (try simp only [nfe] at hg))))); any_goals ((first | (refine hK _ _ _ _ (fun hx => ?_)) | (refine hK _ _ _ _ (drawOk_names (fun i => i - k) (by simp only [List.map_cons, List.map_nil, shG, ↓reduceIte, Nat.add_sub_cancel_left, Nat.sub_self]; rfl) (by decide +kernel) (by simp -dsimp -implicitDefEqProofs only [go_sem, eq_self, ↓reduceIte])) (fun hx => ?_)) | (refine hK _ _ _ _ (drawOk_of (by kernel_rfl) (by simp -dsimp -implicitDefEqProofs only [go_sem, eq_self, ↓reduceIte])) (fun hx => ?_))); clear hx hK; simp -dsimp -implicitDefEqProofs only [go_sem, eq_self, ↓reduceIte]; (try simp (disch := omega) only [wrap_i64, wrap_u64, wrap_u32, wrap_u8]))) | omega))
  · refine C_ret rfl ⟨_, rfl, VLe.of_eq ?_⟩
    rfl
  · have hS : SmallP s := by simpa using ht
    have hq := small_pre hS
    refine S_reg rfl [0,1,2,3,6] [.ret (.agg s.cells)] rfl (fun K hK => ?_); simp -dsimp -implicitDefEqProofs only [go_sem, eq_self, ↓reduceIte]; (repeat' (first | (refine And.intro ?_ ?_) | (refine gs_both (fun hb => ?_) (fun hb => ?_) <;> (have hg := hb; (try simp only [nfb] at hg); simp -dsimp -implicitDefEqProofs only [go_sem, hb, hg, eq_self, ↓reduceIte]; clear hb; (try simp only [nfe] at hg))))); (any_goals ((refine hK _ _ _ _ (fun hx => ?_)); clear hx hK; simp -dsimp -implicitDefEqProofs only [go_sem, eq_self, ↓reduceIte]; (try simp (disch := omega) only [wrap_i64, wrap_u64, wrap_u32, wrap_u8]))); (all_goals (try omega))
    · exact copyState s hq.sm
    (repeat' (first | (refine C_seq rfl ?_) | (refine C_block rfl ?_) | (refine C_skip rfl ?_; (try simp -dsimp -implicitDefEqProofs only [go_sem, eq_self, ↓reduceIte])) | (refine C_exit rfl ?_; (try simp -dsimp -implicitDefEqProofs only [go_sem, eq_self, ↓reduceIte])) | (refine C_cond rfl _ rfl (fun ht => ?_) (fun ht => ?_) <;> (try (simp only [nf] at ht)) <;> (try (exfalso; omega))) | ((first | (refine S_reg0 rfl [0,1,2,3,6] rfl rfl (fun K hK => ?_)) | (refine S_drw0 rfl [0,1,2,3,6] rfl (by kernel_rfl) rfl (fun K hK => ?_))); simp -dsimp -implicitDefEqProofs only [go_sem, eq_self, ↓reduceIte]; (repeat' (first | (refine And.intro ?_ ?_) | (refine gs_both (fun hb => ?_) (fun hb => ?_) <;> (have hg := hb; (try simp only [nfb] at hg); simp -dsimp -implicitDefEqProofs only [go_sem, hb, hg, eq_self, ↓reduceIte]; clear hb; (try simp only [nfe] at hg))))); any_goals ((first | (refine hK _ _ _ _ (fun hx => ?_)) | (refine hK _ _ _ _ (drawOk_names (fun i => i - k) (by simp only [List.map_cons, List.map_nil, shG, ↓reduceIte, Nat.add_sub_cancel_left, Nat.sub_self]; rfl) (by decide +kernel) (by simp -dsimp -implicitDefEqProofs only [go_sem, eq_self, ↓reduceIte])) (fun hx => ?_)) | (refine hK _ _ _ _ (drawOk_of (by kernel_rfl) (by simp -dsimp -implicitDefEqProofs only [go_sem, eq_self, ↓reduceIte])) (fun hx => ?_))); clear hx hK; simp -dsimp -implicitDefEqProofs only [go_sem, eq_self, ↓reduceIte]; (try simp (disch := omega) only [wrap_i64, wrap_u64, wrap_u32, wrap_u8]))) | omega))
    refine S_drw rfl [0,1,2,3,6] [.ret (rows 3 ((checkR s).map Flt.row)), .ret (rows 3 ((checkR s).map Flt.row)), .ret (.lit (.bool true)), .ret (.lit (.bool true))] (by kernel_rfl) rfl (fun K hK => ?_); simp -dsimp -implicitDefEqProofs only [go_sem, eq_self, ↓reduceIte]; (repeat' (first | (refine And.intro ?_ ?_) | (refine gs_both (fun hb => ?_) (fun hb => ?_) <;> (have hg := hb; (try simp only [nfb] at hg); simp -dsimp -implicitDefEqProofs only [go_sem, hb, hg, eq_self, ↓reduceIte]; clear hb; (try simp only [nfe] at hg))))); (any_goals ((first | (refine hK _ _ _ _ (drawOk_names (fun i => i - k) (by simp only [List.map_cons, List.map_nil, shG, ↓reduceIte, Nat.add_sub_cancel_left, Nat.sub_self]; rfl) (by decide +kernel) (by simp -dsimp -implicitDefEqProofs only [go_sem, eq_self, ↓reduceIte])) (fun hx => ?_)) | (refine hK _ _ _ _ (drawOk_of (by kernel_rfl) (by simp -dsimp -implicitDefEqProofs only [go_sem, eq_self, ↓reduceIte])) (fun hx => ?_))); clear hx hK; simp -dsimp -implicitDefEqProofs only [go_sem, eq_self, ↓reduceIte]; (try simp (disch := omega) only [wrap_i64, wrap_u64, wrap_u32, wrap_u8]))); (all_goals (try omega))
    · exact check_eq s hq hk
    · exact check_ref' s hq hk
    · rfl
    · exact same_eq (checkR s) (checkR_len s hq)
    · exact sameState s hq.sm
    exact C_ret rfl ⟨_, rfl, VLe.refl _⟩
end Go.Proofs.T
end

section
set_option linter.unusedVariables false
set_option linter.unusedSimpArgs false
namespace Go.Proofs.T
open Go Go.AM Go.Proofs
set_option linter.unusedSimpArgs false
set_option linter.unusedVariables false
set_option maxRecDepth 4000
theorem awake : Pure Tryd.prog [] 6 [] (.lit (.bool true)) := Pure_true 300 rfl (by kernel_rfl)
theorem auditChecks (s : St) (hk : Kinds s) : Pure Tryd.prog [] 3 [.agg s.cells] (.lit (.bool true)) := by
  refine Pure_at Tryd.func3 rfl 8 rfl (Nat.le_of_ble_eq_true rfl) rfl fun k => ?_
  (repeat' (first | (refine C_seq rfl ?_) | (refine C_block rfl ?_) | (refine C_skip rfl ?_; (try simp -dsimp -implicitDefEqProofs only [go_sem, eq_self, ↓reduceIte])) | (refine C_exit rfl ?_; (try simp -dsimp -implicitDefEqProofs only [go_sem, eq_self, ↓reduceIte])) | (refine C_cond rfl _ rfl (fun ht => ?_) (fun ht => ?_) <;> (try (simp only [nf] at ht)) <;> (try (exfalso; omega))) | ((first | (refine S_reg0 rfl [0,1,2] rfl rfl (fun K hK => ?_)) | (refine S_drw0 rfl [0,1,2] rfl (by kernel_rfl) rfl (fun K hK => ?_))); simp -dsimp -implicitDefEqProofs only [go_sem, eq_self, ↓reduceIte]; (repeat' (first | (refine And.intro ?_ ?_) | (refine gs_both (fun hb => ?_) (fun hb => ?_) <;> (have hg := hb; (try simp only [nfb] at hg); simp -dsimp -implicitDefEqProofs only [go_sem, hb, hg, eq_self, ↓reduceIte]; clear hb; (try simp only [nfe] at hg))))); any_goals ((first | (refine hK _ _ _ _ (fun hx => ?_)) | (refine hK _ _ _ _ (drawOk_names (fun i => i - k) (by simp only [List.map_cons, List.map_nil, shG, ↓reduceIte, Nat.add_sub_cancel_left, Nat.sub_self]; rfl) (by decide +kernel) (by simp -dsimp -implicitDefEqProofs only [go_sem, eq_self, ↓reduceIte])) (fun hx => ?_)) | (refine hK _ _ _ _ (drawOk_of (by kernel_rfl) (by simp -dsimp -implicitDefEqProofs only [go_sem, eq_self, ↓reduceIte])) (fun hx => ?_))); clear hx hK; simp -dsimp -implicitDefEqProofs only [go_sem, eq_self, ↓reduceIte]; (try simp (disch := omega) only [wrap_i64, wrap_u64, wrap_u32, wrap_u8]))) | omega))
  refine S_reg rfl [0,1,2] [.ret (.lit (.bool true)), .ret (.lit (.bool true))] rfl (fun K hK => ?_); simp -dsimp -implicitDefEqProofs only [go_sem, eq_self, ↓reduceIte]; (repeat' (first | (refine And.intro ?_ ?_) | (refine gs_both (fun hb => ?_) (fun hb => ?_) <;> (have hg := hb; (try simp only [nfb] at hg); simp -dsimp -implicitDefEqProofs only [go_sem, hb, hg, eq_self, ↓reduceIte]; clear hb; (try simp only [nfe] at hg))))); (any_goals ((refine hK _ _ _ _ (fun hx => ?_)); clear hx hK; simp -dsimp -implicitDefEqProofs only [go_sem, eq_self, ↓reduceIte]; (try simp (disch := omega) only [wrap_i64, wrap_u64, wrap_u32, wrap_u8]))); (all_goals (try omega))
  · exact checks s hk
  · exact awake
  exact C_ret rfl ⟨_, rfl, VLe.refl _⟩
end Go.Proofs.T
end

section
set_option linter.unusedVariables false
set_option linter.unusedSimpArgs false
namespace Go.AM
open Go
def Dec (w : World) (G : Nat → Prop) (vs : List AVal) (cs : List Value) : Prop :=
  vs.length = cs.length ∧ ∀ (j : Nat) (v : AVal), vs[j]? = some v → ∃ c, cs[j]? = some c ∧ V w G noNames noAllow v c
section
variable {H : Type} {enc : TypeId × Value → H} {P : Program} {w : World} {base : Nat} {sp : Nat → Bool} {held : Bool} {fuel : Nat} {t : TypeId} {cs : List Value} {x : DataW H × List MemPlace} {G : Nat → Prop}
theorem Dec.one {v : AVal} {c : Value} (h : V w G noNames noAllow v c) : Dec w G [v] [c] := ⟨rfl, fun j u hj => by
  match j with
  | 0 => cases hj; exact ⟨c, rfl, h⟩
  | j + 1 => simp at hj⟩
theorem Dec.app {a b : List AVal} {c d : List Value} (h : Dec w G a c) (k : Dec w G b d) : Dec w G (a ++ b) (c ++ d) := by
  refine ⟨by rw [List.length_append, List.length_append, h.1, k.1], fun j v hj => ?_⟩
  by_cases hlt : j < a.length
  · rw [List.getElem?_append_left hlt] at hj
    obtain ⟨e, he, hv⟩ := h.2 j v hj
    exact ⟨e, by rw [List.getElem?_append_left (by rw [← h.1]; exact hlt)]; exact he, hv⟩
  · rw [List.getElem?_append_right (by omega)] at hj
    obtain ⟨e, he, hv⟩ := k.2 _ v hj
    exact ⟨e, by rw [List.getElem?_append_right (by rw [← h.1]; omega), ← h.1]; exact he, hv⟩
theorem dec_int {k : IntKind} (ht : P.underlying t = some (.int k)) (h : DataW.trod enc P w base sp held fuel t cs = some x) : ∃ n, Dec w G [.lit (.int k n)] cs ∧ (Lit.int k n).wf = true := by
  obtain ⟨n, rfl, _, hw⟩ := DataW.trod_int ht h
  exact ⟨n, .one .lit, hw⟩
theorem dec_bool (ht : P.underlying t = some .bool) (h : DataW.trod enc P w base sp held fuel t cs = some x) : ∃ b, Dec w G [.lit (.bool b)] cs := by
  obtain ⟨b, rfl, _⟩ := DataW.trod_bool ht h
  exact ⟨b, .one .lit⟩
theorem add_add (a : Addr) (i j : Nat) (h : a.spot = none) : (a.add i).add j = ⟨a.block, a.off + i + j, none⟩ := by
  unfold Addr.add
  cases a
  simp only at h
  subst h
  by_cases hi : i = 0 <;> by_cases hj : j = 0 <;> simp [hi, hj]
theorem dec_slice {e : TypeId} {α : Type} (F : α → List AVal) (Q : α → Prop) (a0 : α) (h0 : Q a0) {sz : Nat} (hsz : 0 < sz) (ht : P.underlying t = some (.slice e)) (he : P.cellsOf e = sz)
    (hG : ∀ b, b < w.heap.size → G b)
    (hel : ∀ (n : Nat) (cs : List Value) (y : DataW H × List MemPlace), cs.length = sz → DataW.trod enc P w base sp held n e cs = some y → ∃ a, Q a ∧ Dec w G (F a) cs)
    (h : DataW.trod enc P w base sp held fuel t cs = some x) : ∃ (n : Nat) (f : Nat → α), (∀ i, Q (f i)) ∧ Dec w G [.rd sz n (fun i => F (f i))] cs := by
  rcases DataW.trod_slice ht h with ⟨rfl, _⟩ | ⟨a, len, cap, elems, rest, n, _, rfl, _, hb, hl, hm, hlen, hels, _, _⟩
  · exact ⟨0, fun _ => a0, fun _ => h0, .one .rd0⟩
  · by_cases hz : len = 0
    · subst hz; exact ⟨0, fun _ => a0, fun _ => h0, .one .rd0⟩
    · rw [he] at hels
      have each : ∀ i, i < len → ∃ ci y, w.cells? base (a.add (i * sz)) sz = some ci ∧ DataW.trod enc P w base sp held n e ci = some y := fun i hi => by
        have h1 := hels i hi
        rw [List.getElem?_eq_getElem (by omega), Option.bind_eq_some_iff] at h1
        obtain ⟨ci, h2, h3⟩ := h1
        exact ⟨ci, _, h2, h3⟩
      have each' : ∀ i, ∃ (ci : List Value) (q : α), Q q ∧ (i < len → w.cells? base (a.add (i * sz)) sz = some ci ∧ Dec w G (F q) ci) := fun i => by
        by_cases hi : i < len
        · obtain ⟨ci, y, h1, h2⟩ := each i hi
          obtain ⟨q, h3, h4⟩ := hel n ci y (World.cells?_some h1).2.1 h2
          exact ⟨ci, q, h3, fun _ => ⟨h1, h4⟩⟩
        · exact ⟨[], a0, h0, fun h => absurd h hi⟩
      let ci := fun i => Classical.choose (each' i)
      let f := fun i => Classical.choose (Classical.choose_spec (each' i))
      have hf : ∀ i, Q (f i) ∧ (i < len → w.cells? base (a.add (i * sz)) sz = some (ci i) ∧ Dec w G (F (f i)) (ci i)) := fun i => Classical.choose_spec (Classical.choose_spec (each' i))
      have hspot : a.spot = none := by
        have h1 := (World.cells?_some ((hf 0).2 (by omega)).1)
        have h2 := h1.2.2 0 hsz
        rw [Nat.zero_mul] at h2
        have h3 : a.add 0 = a := by simp [Addr.add]
        rw [h3, h3, List.getElem?_eq_getElem (by rw [h1.2.1]; exact hsz)] at h2
        unfold World.cell? at h2
        cases hs : a.spot with
        | none => rfl
        | some s => rw [hs] at h2; split at h2 <;> simp at h2
      have hcell : ∀ i j, i < len → j < sz → w.cell? ⟨a.block, a.off + i * sz + j, none⟩ = (ci i)[j]? := fun i j hi hj => by
        have h1 := (World.cells?_some ((hf i).2 hi).1).2.2 j hj
        rwa [add_add a _ _ hspot] at h1
      have hcl : ∀ i, i < len → (ci i).length = sz := fun i hi => (World.cells?_some ((hf i).2 hi).1).2.1
      have hFl : ∀ i, i < len → (F (f i)).length = sz := fun i hi => by rw [((hf i).2 hi).2.1, hcl i hi]
      have hblk : a.block < w.heap.size := by
        have h1 := hcell 0 0 (by omega) hsz
        rw [List.getElem?_eq_getElem (by rw [hcl 0 (by omega)]; exact hsz)] at h1
        by_cases hb : a.block < w.heap.size
        · exact hb
        · unfold World.cell? at h1
          simp only at h1
          rw [Array.getElem?_eq_none (by omega)] at h1; cases h1
      refine ⟨len, f, fun i => (hf i).1, .one ?_⟩
      have ea : a = ⟨a.block, a.off, none⟩ := by cases a; simp only at hspot; rw [hspot]
      rw [ea]
      refine .rd (fun i j => (ci i).getD j undef) (hG _ hblk) hl (by omega) hFl (fun i j v hi hj => ?_) (fun i j v hi hj => ?_)
      · obtain ⟨c, h1, h2⟩ := ((hf i).2 hi).2.2 j v hj
        have hj' : j < sz := by rw [← hcl i hi]; exact (List.getElem?_eq_some_iff.1 h1).1
        rw [hcell i j hi hj', h1]
        simp [List.getD_eq_getElem?_getD, h1]
      · obtain ⟨c, h1, h2⟩ := ((hf i).2 hi).2.2 j v hj
        simp only [List.getD_eq_getElem?_getD, h1, Option.getD_some]
        exact h2
theorem V.of_dec {vs : List AVal} {cs : Array Value} {ρ : Names} {A : Allow} (h : Dec w G vs cs.toList) : V w G ρ A (.agg vs) (.agg cs) := by
  have h1 : V w G noNames noAllow (.agg vs) (.agg cs) := .agg (by rw [h.1]; simp) fun j v hj => by
    obtain ⟨c, h2, h3⟩ := h.2 j v hj
    have : cs.getD j undef = c := by
      rw [Array.getElem?_toList] at h2
      simp [Array.getD_eq_getD_getElem?, h2]
    rw [this]; exact h3
  exact h1.mono (fun _ h => h) (fun _ _ => rfl) (fun _ _ => rfl) (fun _ h => h.elim) (fun _ h => h.elim)
end
end Go.AM
end

section
set_option linter.unusedVariables false
set_option linter.unusedSimpArgs false
namespace Go.AM
open Go Go.RowKit
theorem keptBut_below {w w' : World} (h : Below w.heap.size w w') (may : MemPlace → Prop) : w.keptBut w' may := by
  refine ⟨h.os, h.output, fun i hi => ?_⟩
  rw [h.block i hi]
  cases w.heap[i]? with
  | none => rfl
  | some o => cases o <;> simp
theorem row_hrel (W : World) (A : Allow) : HRel [] W (fun b => b < W.heap.size) noNames (ofHeap [] A) :=
  ⟨fun _ _ => rfl, fun id B A' hid => (by simp [ofHeap, look] at hid), fun i j b s t h => (by cases h), fun b hb => hb, fun g cells hg => by simp [look] at hg⟩
theorem row_call {P : Program} {f : FuncId} {vs : List AVal} {b : Bool} {args : Array Value} {W : World} (h : Pure P [] f vs (.lit (.bool b))) (hv : Vs W (fun b => b < W.heap.size) noNames noAllow vs args) :
    Calls P f args W fun e W' => e = .returned (.bool b) ∧ Below W.heap.size W W' := by
  refine (h 0 noAllow (fun _ h => h.elim) W _ noNames args (row_hrel W _) hv).mono ?_
  rintro e W' ⟨cv, G', ρ', k', r, H', rfl, ⟨rfl, rfl, rfl⟩, _, _, hvr, hst⟩
  have e1 : cv = .bool b := by cases hvr; rfl
  subst e1
  exact ⟨rfl, hst.os, hst.tape, hst.output, hst.size, fun k hk => hst.keep k hk (fun ⟨_, _, h⟩ => by cases h)⟩
end Go.AM
end

section
set_option linter.unusedVariables false
set_option linter.unusedSimpArgs false
namespace Go.Proofs.T
open Go Go.AM Go.Proofs
set_option linter.unusedSimpArgs false
set_option linter.unusedVariables false
set_option maxRecDepth 4000
section
variable {H : Type} {enc : TypeId × Value → H} {P : Program} {w : World} {base : Nat} {sp : Nat → Bool} {held : Bool} {fuel : Nat} {t : TypeId} {cs : List Value} {x : DataW H × List MemPlace} {G : Nat → Prop}
theorem dec_field {fs : Array Field} (ht : P.underlying t = some (.struct fs)) (h : DataW.trod enc P w base sp held fuel t cs = some x) :
    cs.length = P.cellsOf t ∧ ∃ n, ∀ (i : Nat) (f : Field), fs[i]? = some f → ∃ y, DataW.trod enc P w base sp held n f.type ((cs.drop f.offset).take (P.cellsOf f.type)) = some y := by
  obtain ⟨xs, n, _, _, h1, h2, h3⟩ := DataW.trod_struct ht h
  refine ⟨h1, n, fun i f hf => ?_⟩
  have hi : i < xs.length := by rw [h2]; exact (Array.getElem?_eq_some_iff.1 hf).1
  exact ⟨xs[i], by rw [h3 i f hf, List.getElem?_eq_getElem hi]⟩
def Tk.cells (k : Tk) : List AVal := [.lit (.int .i64 k.id), .lit (.int .i64 k.group), .lit (.int .i64 k.weight), .lit (.int .i64 k.cpu), .lit (.int .u64 k.mask), .lit (.bool k.ready), .lit (.int .u64 k.v), .lit (.int .u32 k.r)]
def Sp.cells (k : Sp) : List AVal := [.lit (.int .u64 k.v), .lit (.int .u32 k.r), .lit (.int .u64 k.floor)]
def Tk.ok (k : Tk) : Prop := 0 ≤ k.mask ∧ k.mask < 18446744073709551616 ∧ k.v ≤ 18446744073709551615 ∧ 0 ≤ k.r
def Sp.ok (k : Sp) : Prop := 0 ≤ k.v ∧ k.v ≤ 18446744073709551615 ∧ 0 ≤ k.r
theorem u64_rng {n : Int} (h : (Lit.int .u64 n).wf = true) : 0 ≤ n ∧ n < 18446744073709551616 := by
  simp [Lit.wf] at h
  have e1 : IntKind.u64.min = 0 := rfl
  have e2 : IntKind.u64.max = 18446744073709551615 := rfl
  omega
theorem u32_rng {n : Int} (h : (Lit.int .u32 n).wf = true) : 0 ≤ n := by
  simp [Lit.wf] at h
  have e1 : IntKind.u32.min = 0 := rfl
  omega
theorem len2 {cs : List Value} (h : cs.length = 2) : ∃ a b, cs = [a, b] := by
  match cs, h with
  | [a, b], _ => exact ⟨a, b, rfl⟩
theorem len3 {cs : List Value} (h : cs.length = 3) : ∃ a b c, cs = [a, b, c] := by
  match cs, h with
  | [a, b, c], _ => exact ⟨a, b, c, rfl⟩
theorem len7 {cs : List Value} (h : cs.length = 7) : ∃ a b c d e f g, cs = [a, b, c, d, e, f, g] := by
  match cs, h with
  | [a, b, c, d, e, f, g], _ => exact ⟨a, b, c, d, e, f, g, rfl⟩
theorem len8 {cs : List Value} (h : cs.length = 8) : ∃ a b c d e f g i, cs = [a, b, c, d, e, f, g, i] := by
  match cs, h with
  | [a, b, c, d, e, f, g, i], _ => exact ⟨a, b, c, d, e, f, g, i, rfl⟩
theorem dec_group {n : Nat} {y : DataW H × List MemPlace} (hl : cs.length = 2) (h : DataW.trod enc Tryd.prog w base sp held n 78 cs = some y) :
    ∃ a : Int × Int, True ∧ Dec w G [.lit (.int .i64 a.1), .lit (.int .i64 a.2)] cs := by
  obtain ⟨_, m, hf⟩ := dec_field Tryd.underlying78 h
  obtain ⟨c0, c1, rfl⟩ := len2 hl
  obtain ⟨_, h0⟩ := hf 0 _ rfl
  obtain ⟨_, h1⟩ := hf 1 _ rfl
  obtain ⟨a, d0, _⟩ := dec_int (G := G) Tryd.underlying3 h0
  obtain ⟨b, d1, _⟩ := dec_int (G := G) Tryd.underlying3 h1
  exact ⟨(a, b), trivial, d0.app d1⟩
theorem dec_task {n : Nat} {y : DataW H × List MemPlace} (hl : cs.length = 8) (h : DataW.trod enc Tryd.prog w base sp held n 46 cs = some y) :
    ∃ a : Tk, a.ok ∧ Dec w G a.cells cs := by
  obtain ⟨_, m, hf⟩ := dec_field Tryd.underlying46 h
  obtain ⟨c0, c1, c2, c3, c4, c5, c6, c7, rfl⟩ := len8 hl
  obtain ⟨_, h0⟩ := hf 0 _ rfl
  obtain ⟨_, h1⟩ := hf 1 _ rfl
  obtain ⟨_, h2⟩ := hf 2 _ rfl
  obtain ⟨_, h3⟩ := hf 3 _ rfl
  obtain ⟨_, h4⟩ := hf 4 _ rfl
  obtain ⟨_, h5⟩ := hf 5 _ rfl
  obtain ⟨_, h6⟩ := hf 6 _ rfl
  obtain ⟨_, h7⟩ := hf 7 _ rfl
  obtain ⟨a0, d0, _⟩ := dec_int (G := G) Tryd.underlying3 h0
  obtain ⟨a1, d1, _⟩ := dec_int (G := G) Tryd.underlying3 h1
  obtain ⟨a2, d2, _⟩ := dec_int (G := G) Tryd.underlying3 h2
  obtain ⟨a3, d3, _⟩ := dec_int (G := G) Tryd.underlying3 h3
  obtain ⟨a4, d4, w4⟩ := dec_int (G := G) Tryd.underlying22 h4
  obtain ⟨a5, d5⟩ := dec_bool (G := G) Tryd.underlying4 h5
  obtain ⟨a6, d6, w6⟩ := dec_int (G := G) Tryd.underlying22 h6
  obtain ⟨a7, d7, w7⟩ := dec_int (G := G) Tryd.underlying44 h7
  have := u64_rng w4
  have := u64_rng w6
  have := u32_rng w7
  exact ⟨⟨a0, a1, a2, a3, a4, a5, a6, a7⟩, ⟨by simp only; omega, by simp only; omega, by simp only; omega, by simp only; omega⟩, d0.app (d1.app (d2.app (d3.app (d4.app (d5.app (d6.app d7))))))⟩
theorem dec_spot {n : Nat} {y : DataW H × List MemPlace} (hl : cs.length = 3) (h : DataW.trod enc Tryd.prog w base sp held n 48 cs = some y) :
    ∃ a : Sp, a.ok ∧ Dec w G a.cells cs := by
  obtain ⟨_, m, hf⟩ := dec_field Tryd.underlying48 h
  obtain ⟨c0, c1, c2, rfl⟩ := len3 hl
  obtain ⟨_, h0⟩ := hf 0 _ rfl
  obtain ⟨_, h1⟩ := hf 1 _ rfl
  obtain ⟨_, h2⟩ := hf 2 _ rfl
  obtain ⟨a0, d0, w0⟩ := dec_int (G := G) Tryd.underlying22 h0
  obtain ⟨a1, d1, w1⟩ := dec_int (G := G) Tryd.underlying44 h1
  obtain ⟨a2, d2, w2⟩ := dec_int (G := G) Tryd.underlying22 h2
  have := u64_rng w0
  have := u32_rng w1
  exact ⟨⟨a0, a1, a2⟩, ⟨by simp only; omega, by simp only; omega, by simp only; omega⟩, d0.app (d1.app d2)⟩
theorem dec_ints (hG : ∀ b, b < w.heap.size → G b) (h : DataW.trod enc Tryd.prog w base sp held fuel 26 cs = some x) : ∃ (n : Nat) (f : Nat → Int), Dec w G [.rd 1 n (fun i => [.lit (.int .i64 (f i))])] cs := by
  obtain ⟨n, f, _, d⟩ := dec_slice (G := G) (fun a : Int => [.lit (.int .i64 a)]) (fun _ => True) 0 trivial (sz := 1) (by omega) Tryd.underlying26 (by kernel_rfl) hG (fun n cs y hl hy => by
    obtain ⟨a, d, _⟩ := dec_int (G := G) Tryd.underlying3 hy
    exact ⟨a, trivial, d⟩) h
  exact ⟨n, f, d⟩
theorem dec_spots (hG : ∀ b, b < w.heap.size → G b) (h : DataW.trod enc Tryd.prog w base sp held fuel 49 cs = some x) : ∃ (a : Nat × (Nat → Sp)), (∀ i, (a.2 i).ok) ∧ Dec w G [.rd 3 a.1 (fun i => (a.2 i).cells)] cs := by
  obtain ⟨n, f, q, d⟩ := dec_slice (G := G) Sp.cells Sp.ok ⟨0, 0, 0⟩ ⟨by simp, by simp, by simp⟩ (sz := 3) (by omega) Tryd.underlying49 (by kernel_rfl) hG (fun n cs y hl hy => dec_spot hl hy) h
  exact ⟨(n, f), q, d⟩
theorem dec_state (hG : ∀ b, b < w.heap.size → G b) (h : DataW.trod enc Tryd.prog w base sp held fuel 30 cs = some x) : ∃ s : St, Kinds s ∧ Dec w G s.cells cs := by
  obtain ⟨hl, m, hf⟩ := dec_field Tryd.underlying30 h
  have hl7 : cs.length = 7 := hl.trans (by kernel_rfl)
  obtain ⟨c0, c1, c2, c3, c4, c5, c6, rfl⟩ := len7 hl7
  obtain ⟨_, h0⟩ := hf 0 _ rfl
  obtain ⟨_, h1⟩ := hf 1 _ rfl
  obtain ⟨_, h2⟩ := hf 2 _ rfl
  obtain ⟨_, h3⟩ := hf 3 _ rfl
  obtain ⟨_, h4⟩ := hf 4 _ rfl
  obtain ⟨_, m', hf'⟩ := dec_field Tryd.underlying25 h0
  obtain ⟨_, k0⟩ := hf' 0 _ rfl
  obtain ⟨_, k1⟩ := hf' 1 _ rfl
  obtain ⟨_, k2⟩ := hf' 2 _ rfl
  obtain ⟨cpus, d0, _⟩ := dec_int (G := G) Tryd.underlying3 k0
  obtain ⟨credit, d1, _⟩ := dec_int (G := G) Tryd.underlying22 k1
  obtain ⟨ng, fg, _, d2⟩ := dec_slice (G := G) (fun a : Int × Int => [.lit (.int .i64 a.1), .lit (.int .i64 a.2)]) (fun _ => True) (0, 0) trivial (sz := 2) (by omega) Tryd.underlying23 (by kernel_rfl) hG (fun n cs y hl hy => dec_group hl hy) k2
  obtain ⟨nk, fk, d3⟩ := dec_ints hG h1
  obtain ⟨nu, fu, d4⟩ := dec_ints hG h2
  obtain ⟨nt, ft, qt, d5⟩ := dec_slice (G := G) Tk.cells Tk.ok ⟨0, 0, 0, 0, 0, false, 0, 0⟩ ⟨by simp, by simp, by simp, by simp⟩ (sz := 8) (by omega) Tryd.underlying27 (by kernel_rfl) hG (fun n cs y hl hy => dec_task hl hy) h3
  obtain ⟨ns, fs, qs, d6⟩ := dec_slice (G := G) (fun a : Nat × (Nat → Sp) => [.rd 3 a.1 (fun i => (a.2 i).cells)]) (fun a => ∀ i, (a.2 i).ok) (0, fun _ => ⟨0, 0, 0⟩) (fun i => ⟨by simp, by simp, by simp⟩) (sz := 1) (by omega) Tryd.underlying28 (by kernel_rfl) hG (fun n cs y hl hy => dec_spots hG hy) h4
  refine ⟨⟨cpus, credit, ng, fun i => (fg i).1, fun i => (fg i).2, nk, fk, nu, fu, nt, ft, ns, fun g => (fs g).1, fun g c => (fs g).2 c⟩, ⟨⟨fun i => (qt i).1, fun i => (qt i).2.1, fun i => (qt i).2.2.1, fun i => (qt i).2.2.2, fun g c => (qs g c).2.1, fun g c => (qs g c).2.2⟩, fun g c => (qs g c).1⟩, ?_⟩
  exact d0.app (d1.app (d2.app (d3.app (d4.app (d5.app d6)))))
end
end Go.Proofs.T
end

section
set_option linter.unusedVariables false
set_option linter.unusedSimpArgs false
namespace Go.Proofs.T
open Go Go.AM Go.Proofs Go.ChangeShapes Go.WideShapes Go.ChangeAt Go.WideMaps Go.WideElems Go.RowKit Go.Proofs.YtbajbdfjpndkdaaDoor
set_option linter.unusedSimpArgs false
set_option linter.unusedVariables false
set_option maxRecDepth 100000
theorem ownK : ownKnob Tryd.prog.godebug = none := by kernel_rfl
theorem laidOut : laidOutB Tryd.prog = true := by kernel_rfl
theorem vs_one {W : World} {G : Nat → Prop} {ρ : Names} {A : Allow} {v : AVal} {c : Value} (h : V W G ρ A v c) : Vs W G ρ A [v] #[c] :=
  ⟨rfl, fun j u hj => by
    match j with
    | 0 => cases hj; exact h
    | j + 1 => simp at hj⟩
theorem agg_of_ok {W : World} {r : Reach} {base : Nat} {v : Value} (h : Value.okWide Tryd.prog W r base 30 v) : ∃ cs, v = .agg cs := by
  unfold Value.okWide at h
  rw [Tryd.underlying30] at h
  obtain ⟨cs, h1, _⟩ := h
  exact ⟨cs, h1⟩
theorem state_of {H : Type} {enc : TypeId × Value → H} {W : World} {cs : Array Value} {d : DataW H} {p : List MemPlace} (h : DataW.Trod enc Tryd.prog W 0 (fun _ => true) true 30 (.agg cs) d p) :
    ∃ s : St, Kinds s ∧ V W (fun b => b < W.heap.size) noNames noAllow (.agg s.cells) (.agg cs) := by
  obtain ⟨fuel, h⟩ := h
  obtain ⟨s, hk, hd⟩ := dec_state (G := fun b => b < W.heap.size) (fun b hb => hb) h
  exact ⟨s, hk, V.of_dec hd⟩
def zeroState : Value := .agg #[.int .i64 0, .int .u64 0, .slice none 0 0, .slice none 0 0, .slice none 0 0, .slice none 0 0, .slice none 0 0]
end Go.Proofs.T
end

section
set_option linter.unusedVariables false
set_option linter.unusedSimpArgs false
namespace Go.Proofs.T
open Go Go.AM Go.Proofs
set_option linter.unusedSimpArgs false
set_option linter.unusedVariables false
set_option maxRecDepth 4000
variable {Γ : List (Nat × List AVal)}
def pf (s : St) (i : Nat) : List AVal := [.lit (.int .i64 (s.par i))]
attribute [go_sem] pf
def parL (s : St) (i : Nat) : List (List AVal) := (List.range i).map (pf s)
theorem parL_zero (s : St) : parL s 0 = [] := rfl
theorem parL_succ (s : St) (i : Nat) : parL s (i + 1) = parL s i ++ [pf s i] := range_snoc
theorem parL_len (s : St) (i : Nat) : (parL s i).length = i := by simp [parL]
attribute [go_sem] parL_len
theorem parents (s : St) (n : Nat) (hn : n ≤ 1000) : Pure Tryd.prog Γ 39 [.rd 2 n (gf s)] (.rd 1 n (pf s)) := by
  refine Pure_at Tryd.func39 rfl 19 rfl (Nat.le_of_ble_eq_true rfl) rfl fun k => ?_
  (repeat' (first | (refine C_seq rfl ?_) | (refine C_block rfl ?_) | (refine C_skip rfl ?_; (try simp -dsimp -implicitDefEqProofs only [go_sem, eq_self, ↓reduceIte])) | (refine C_exit rfl ?_; (try simp -dsimp -implicitDefEqProofs only [go_sem, eq_self, ↓reduceIte])) | (refine C_cond rfl _ rfl (fun ht => ?_) (fun ht => ?_) <;> (try (simp only [nf] at ht)) <;> (try (exfalso; omega))) | ((first | (refine S_reg0 rfl [0,2,3,5,6,7,8,9] rfl rfl (fun K hK => ?_)) | (refine S_drw0 rfl [0,2,3,5,6,7,8,9] rfl (by kernel_rfl) rfl (fun K hK => ?_))); simp -dsimp -implicitDefEqProofs only [go_sem, eq_self, ↓reduceIte]; (repeat' (first | (refine And.intro ?_ ?_) | (refine gs_both (fun hb => ?_) (fun hb => ?_) <;> (have hg := hb; (try simp only [nfb] at hg); simp -dsimp -implicitDefEqProofs only [go_sem, hb, hg, eq_self, ↓reduceIte]; clear hb; (try simp only [nfe] at hg))))); any_goals ((first | (refine hK _ _ _ _ (fun hx => ?_)) | (refine hK _ _ _ _ (drawOk_names (fun i => i - k) (by simp only [List.map_cons, List.map_nil, shG, ↓reduceIte, Nat.add_sub_cancel_left, Nat.sub_self]; rfl) (by decide +kernel) (by simp -dsimp -implicitDefEqProofs only [go_sem, eq_self, ↓reduceIte])) (fun hx => ?_)) | (refine hK _ _ _ _ (drawOk_of (by kernel_rfl) (by simp -dsimp -implicitDefEqProofs only [go_sem, eq_self, ↓reduceIte])) (fun hx => ?_))); clear hx hK; simp -dsimp -implicitDefEqProofs only [go_sem, eq_self, ↓reduceIte]; (try simp (disch := omega) only [wrap_i64, wrap_u64, wrap_u32, wrap_u8]))) | omega))
  refine M_forO (X := Nat) rfl [0,2,3,5,6,7,8,9] (k + 1) (fun i => [(8, .lit (.int .i64 (i : Int))), (3, accV k (parL s i))]) (fun i => accH k 1 (parL s i) []) (fun i => i ≤ n) (fun i => n - i) 0 ?_ (Nat.zero_le _) ?_
  · rw [parL_zero]
    simp -dsimp -implicitDefEqProofs only [go_sem, eq_self, ↓reduceIte]
    exact Mv.wk (wk_low (by omega) (by simp -dsimp -implicitDefEqProofs only [go_sem, List.map_append, List.map_cons, List.map_nil, Flt.row, eq_self, ↓reduceIte]) (by simp -dsimp -implicitDefEqProofs only [go_sem, List.map_append, List.map_cons, List.map_nil, Flt.row, eq_self, ↓reduceIte]) (by simp -dsimp -implicitDefEqProofs only [go_sem, List.map_append, List.map_cons, List.map_nil, Flt.row, eq_self, ↓reduceIte]) (by simp -dsimp -implicitDefEqProofs only [go_sem, List.map_append, List.map_cons, List.map_nil, Flt.row, eq_self, ↓reduceIte]))
  intro i hi
  simp -dsimp -implicitDefEqProofs only [go_sem, eq_self, ↓reduceIte]
  (repeat' (first | (refine C_seq rfl ?_) | (refine C_block rfl ?_) | (refine C_skip rfl ?_; (try simp -dsimp -implicitDefEqProofs only [go_sem, eq_self, ↓reduceIte])) | (refine C_exit rfl ?_; (try simp -dsimp -implicitDefEqProofs only [go_sem, eq_self, ↓reduceIte])) | (refine C_cond rfl _ rfl (fun ht => ?_) (fun ht => ?_) <;> (try (simp only [nf] at ht)) <;> (try (exfalso; omega))) | ((first | (refine S_reg0 rfl [0,2,3,5,6,7,8,9] rfl rfl (fun K hK => ?_)) | (refine S_drw0 rfl [0,2,3,5,6,7,8,9] rfl (by kernel_rfl) rfl (fun K hK => ?_))); simp -dsimp -implicitDefEqProofs only [go_sem, eq_self, ↓reduceIte]; (repeat' (first | (refine And.intro ?_ ?_) | (refine gs_both (fun hb => ?_) (fun hb => ?_) <;> (have hg := hb; (try simp only [nfb] at hg); simp -dsimp -implicitDefEqProofs only [go_sem, hb, hg, eq_self, ↓reduceIte]; clear hb; (try simp only [nfe] at hg))))); any_goals ((first | (refine hK _ _ _ _ (fun hx => ?_)) | (refine hK _ _ _ _ (drawOk_names (fun i => i - k) (by simp only [List.map_cons, List.map_nil, shG, ↓reduceIte, Nat.add_sub_cancel_left, Nat.sub_self]; rfl) (by decide +kernel) (by simp -dsimp -implicitDefEqProofs only [go_sem, eq_self, ↓reduceIte])) (fun hx => ?_)) | (refine hK _ _ _ _ (drawOk_of (by kernel_rfl) (by simp -dsimp -implicitDefEqProofs only [go_sem, eq_self, ↓reduceIte])) (fun hx => ?_))); clear hx hK; simp -dsimp -implicitDefEqProofs only [go_sem, eq_self, ↓reduceIte]; (try simp (disch := omega) only [wrap_i64, wrap_u64, wrap_u32, wrap_u8]))) | omega))
  · refine ⟨i + 1, by omega, by omega, ?_⟩
    rw [parL_succ]
    simp -dsimp -implicitDefEqProofs only [go_sem, eq_self, ↓reduceIte]
    exact Mv.app (k + 3) (k) ⟨by omega, by omega⟩ ⟨by omega, by omega⟩ (wk_low (by omega) (by simp -dsimp -implicitDefEqProofs only [go_sem, List.map_append, List.map_cons, List.map_nil, Flt.row, eq_self, ↓reduceIte]) (by simp -dsimp -implicitDefEqProofs only [go_sem, List.map_append, List.map_cons, List.map_nil, Flt.row, eq_self, ↓reduceIte]) (by simp -dsimp -implicitDefEqProofs only [go_sem, List.map_append, List.map_cons, List.map_nil, Flt.row, eq_self, ↓reduceIte]) (by simp -dsimp -implicitDefEqProofs only [go_sem, List.map_append, List.map_cons, List.map_nil, Flt.row, eq_self, ↓reduceIte]))
  · have hi' : i = n := by omega
    subst hi'
    refine M_racc rfl (id := k) (s := 1) (l := parL s i) 2 (by simp -dsimp -implicitDefEqProofs only [go_sem, List.map_append, List.map_cons, List.map_nil, Flt.row, eq_self, ↓reduceIte]) (by simp -dsimp -implicitDefEqProofs only [go_sem, List.map_append, List.map_cons, List.map_nil, Flt.row, eq_self, ↓reduceIte]) ?_
    refine ⟨_, rfl, ?_⟩
    rw [rows, parL_len]
    exact VLe.copy' _ _ _
theorem slicesEqual (n m : Nat) (f g : Nat → Int) (hn : n ≤ 1000) (hm : m ≤ 1000) : Pure Tryd.prog Γ 38 [.rd 1 n (fun i => [.lit (.int .i64 (f i))]), .rd 1 m (fun i => [.lit (.int .i64 (g i))])] (.lit (.bool (decide (n = m ∧ ∀ i, i < n → f i = g i)))) := by
  refine Pure_at Tryd.func38 rfl 26 rfl (Nat.le_of_ble_eq_true rfl) rfl fun k => ?_
  (repeat' (first | (refine C_seq rfl ?_) | (refine C_block rfl ?_) | (refine C_skip rfl ?_; (try simp -dsimp -implicitDefEqProofs only [go_sem, eq_self, ↓reduceIte])) | (refine C_exit rfl ?_; (try simp -dsimp -implicitDefEqProofs only [go_sem, eq_self, ↓reduceIte])) | (refine C_cond rfl _ rfl (fun ht => ?_) (fun ht => ?_) <;> (try (simp only [nf] at ht)) <;> (try (exfalso; omega))) | ((first | (refine S_reg0 rfl [0,1,4,5,10,12,13,14,24] rfl rfl (fun K hK => ?_)) | (refine S_drw0 rfl [0,1,4,5,10,12,13,14,24] rfl (by kernel_rfl) rfl (fun K hK => ?_))); simp -dsimp -implicitDefEqProofs only [go_sem, eq_self, ↓reduceIte]; (repeat' (first | (refine And.intro ?_ ?_) | (refine gs_both (fun hb => ?_) (fun hb => ?_) <;> (have hg := hb; (try simp only [nfb] at hg); simp -dsimp -implicitDefEqProofs only [go_sem, hb, hg, eq_self, ↓reduceIte]; clear hb; (try simp only [nfe] at hg))))); any_goals ((first | (refine hK _ _ _ _ (fun hx => ?_)) | (refine hK _ _ _ _ (drawOk_names (fun i => i - k) (by simp only [List.map_cons, List.map_nil, shG, ↓reduceIte, Nat.add_sub_cancel_left, Nat.sub_self]; rfl) (by decide +kernel) (by simp -dsimp -implicitDefEqProofs only [go_sem, eq_self, ↓reduceIte])) (fun hx => ?_)) | (refine hK _ _ _ _ (drawOk_of (by kernel_rfl) (by simp -dsimp -implicitDefEqProofs only [go_sem, eq_self, ↓reduceIte])) (fun hx => ?_))); clear hx hK; simp -dsimp -implicitDefEqProofs only [go_sem, eq_self, ↓reduceIte]; (try simp (disch := omega) only [wrap_i64, wrap_u64, wrap_u32, wrap_u8]))) | omega))
  · refine C_ret rfl ⟨_, rfl, VLe.of_eq ?_⟩
    rw [decide_eq_false (by rintro ⟨h1, _⟩; omega)]
  refine M_forO (X := Nat) rfl [0,1,4,5,10,12,13,14,24] k (fun i => [(13, .lit (.int .i64 (i : Int)))]) (fun i => []) (fun i => i ≤ n ∧ ∀ j, j < i → f j = g j) (fun i => n - i) 0 ?_ ⟨Nat.zero_le _, fun j hj => absurd hj (Nat.not_lt_zero _)⟩ ?_
  · simp -dsimp -implicitDefEqProofs only [go_sem, eq_self, ↓reduceIte]
    exact Mv.wk (wk_low (by omega) (by simp -dsimp -implicitDefEqProofs only [go_sem, List.map_append, List.map_cons, List.map_nil, Flt.row, eq_self, ↓reduceIte]) (by simp -dsimp -implicitDefEqProofs only [go_sem, List.map_append, List.map_cons, List.map_nil, Flt.row, eq_self, ↓reduceIte]) (by simp -dsimp -implicitDefEqProofs only [go_sem, List.map_append, List.map_cons, List.map_nil, Flt.row, eq_self, ↓reduceIte]) (by simp -dsimp -implicitDefEqProofs only [go_sem, List.map_append, List.map_cons, List.map_nil, Flt.row, eq_self, ↓reduceIte]))
  rintro i ⟨hi, hall⟩
  simp -dsimp -implicitDefEqProofs only [go_sem, eq_self, ↓reduceIte]
  (repeat' (first | (refine C_seq rfl ?_) | (refine C_block rfl ?_) | (refine C_skip rfl ?_; (try simp -dsimp -implicitDefEqProofs only [go_sem, eq_self, ↓reduceIte])) | (refine C_exit rfl ?_; (try simp -dsimp -implicitDefEqProofs only [go_sem, eq_self, ↓reduceIte])) | (refine C_cond rfl _ rfl (fun ht => ?_) (fun ht => ?_) <;> (try (simp only [nf] at ht)) <;> (try (exfalso; omega))) | ((first | (refine S_reg0 rfl [0,1,4,5,10,12,13,14,24] rfl rfl (fun K hK => ?_)) | (refine S_drw0 rfl [0,1,4,5,10,12,13,14,24] rfl (by kernel_rfl) rfl (fun K hK => ?_))); simp -dsimp -implicitDefEqProofs only [go_sem, eq_self, ↓reduceIte]; (repeat' (first | (refine And.intro ?_ ?_) | (refine gs_both (fun hb => ?_) (fun hb => ?_) <;> (have hg := hb; (try simp only [nfb] at hg); simp -dsimp -implicitDefEqProofs only [go_sem, hb, hg, eq_self, ↓reduceIte]; clear hb; (try simp only [nfe] at hg))))); any_goals ((first | (refine hK _ _ _ _ (fun hx => ?_)) | (refine hK _ _ _ _ (drawOk_names (fun i => i - k) (by simp only [List.map_cons, List.map_nil, shG, ↓reduceIte, Nat.add_sub_cancel_left, Nat.sub_self]; rfl) (by decide +kernel) (by simp -dsimp -implicitDefEqProofs only [go_sem, eq_self, ↓reduceIte])) (fun hx => ?_)) | (refine hK _ _ _ _ (drawOk_of (by kernel_rfl) (by simp -dsimp -implicitDefEqProofs only [go_sem, eq_self, ↓reduceIte])) (fun hx => ?_))); clear hx hK; simp -dsimp -implicitDefEqProofs only [go_sem, eq_self, ↓reduceIte]; (try simp (disch := omega) only [wrap_i64, wrap_u64, wrap_u32, wrap_u8]))) | omega))
  · refine C_ret rfl ⟨_, rfl, VLe.of_eq ?_⟩
    rw [decide_eq_false (by rintro ⟨h1, h2⟩; have := h2 i (by omega); omega)]
  · refine ⟨i + 1, ⟨by omega, fun j hj => ?_⟩, by omega, ?_⟩
    · by_cases he : j = i
      · subst he; omega
      · exact hall j (by omega)
    · simp -dsimp -implicitDefEqProofs only [go_sem, eq_self, ↓reduceIte]
      exact Mv.wk (wk_low (by omega) (by simp -dsimp -implicitDefEqProofs only [go_sem, List.map_append, List.map_cons, List.map_nil, Flt.row, eq_self, ↓reduceIte]) (by simp -dsimp -implicitDefEqProofs only [go_sem, List.map_append, List.map_cons, List.map_nil, Flt.row, eq_self, ↓reduceIte]) (by simp -dsimp -implicitDefEqProofs only [go_sem, List.map_append, List.map_cons, List.map_nil, Flt.row, eq_self, ↓reduceIte]) (by simp -dsimp -implicitDefEqProofs only [go_sem, List.map_append, List.map_cons, List.map_nil, Flt.row, eq_self, ↓reduceIte]))
  · refine C_ret rfl ⟨_, rfl, VLe.of_eq ?_⟩
    rw [decide_eq_true (by refine ⟨by omega, fun j hj => hall j (by omega)⟩)]
end Go.Proofs.T
end

section
set_option linter.unusedVariables false
set_option linter.unusedSimpArgs false
namespace Go.Proofs.T
open Go Go.AM Go.Proofs
set_option linter.unusedSimpArgs false
set_option linter.unusedVariables false
set_option maxRecDepth 4000
variable {Γ : List (Nat × List AVal)}
theorem VLe.tups {us vs : List AVal} (h : VLes us vs) : VLe (.tup us) (.tup vs) := fun w G ρ A cv hv => by
  obtain ⟨h1, h2⟩ := h.spec
  cases hv with
  | tup h3 h4 =>
    refine .tup (by omega) fun j v hj => ?_
    have hlt := (List.getElem?_eq_some_iff.1 hj).1
    have hu : us[j]? = some us[j] := List.getElem?_eq_getElem (by omega)
    exact h2 j _ v hu hj _ _ _ _ _ (h4 j _ hu)
def alB (a b : St) (i : Nat) : Bool := decide (a.cpus = b.cpus ∧ a.credit = b.credit ∧ a.ng = b.ng ∧ ∀ g, g < i → a.par g = b.par g)
def backAt (a b : St) (c : Nat) : List Flt := iff1 (decide (b.clk c < a.clk c)) ⟨15, (c : Int), 0⟩
def fellAt (a b : St) (g c : Nat) : List Flt := iff1 (decide ((b.sp g c).floor < (a.sp g c).floor)) ⟨16, (g : Int), (c : Int)⟩
def fellR (a b : St) (g : Nat) : List Flt := flats (fellAt a b g) (a.nsp g)
def movesL (a b : St) : List Flt := flats (backAt a b) a.nk ++ flats (fellR a b) a.ns
def badP (a b : St) : Prop := 0 < (checkR a).length ∨ 0 < (checkR b).length
instance (a b : St) : Decidable (badP a b) := by unfold badP; infer_instance
def stepF2 (a b : St) : List Flt := if badP a b then [] else if alB a b a.ng = false then [⟨17, 0, 0⟩] else movesL a b
def stepE2 (a b : St) : Int := if badP a b then 320 else 0
theorem checkR_nil {s : St} (h : (checkR s).length = 0) : refCfg s = true ∧ (shapesL s).length = 0 := by
  unfold checkR at h
  by_cases h1 : refCfg s = false
  · rw [if_pos h1] at h; simp at h
  · rw [if_neg h1] at h
    refine ⟨by simpa using h1, ?_⟩
    split at h <;> omega
structure Alike (a b : St) : Prop where
  nk : b.nk = a.nk
  ns : b.ns = a.ns
  nsp : ∀ g, g < a.ns → b.nsp g = a.nsp g
theorem alike_of {a b : St} (ha : (checkR a).length = 0) (hb : (checkR b).length = 0) (hal : alB a b a.ng = true) : Alike a b := by
  obtain ⟨_, ha⟩ := checkR_nil ha
  obtain ⟨_, hb⟩ := checkR_nil hb
  obtain ⟨h1, h2, h3, h4⟩ := shapes_nil ha
  obtain ⟨k1, k2, k3, k4⟩ := shapes_nil hb
  simp only [alB, decide_eq_true_eq] at hal
  obtain ⟨e1, _, e3, _⟩ := hal
  exact ⟨by omega, by omega, fun g hg => by have := h4 g hg; have := k4 g (by omega); omega⟩
theorem movesL_len {a b : St} (hq : PreOk a) : (movesL a b).length ≤ 2000 := by
  have h1 := flats_len (f := backAt a b) (m := 1) (fun i => iff1_len1 _ _) a.nk
  have h2 := flats_len' (f := fellR a b) (m := 12) a.ns (fun g hg => by have := flats_len (f := fellAt a b g) (m := 1) (fun i => iff1_len1 _ _) (a.nsp g); have := hq.p12 g hg; unfold fellR; omega)
  have := hq.sm.nk
  have := hq.n12
  unfold movesL; rw [List.length_append]; omega
set_option maxHeartbeats 4000000 in
theorem step_ref (a b : St) (hq : PreOk a) (hq' : PreOk b) (hk : Kinds a) (hk' : Kinds b) : Pure Tryd.prog Γ 18 [.agg a.cells, .agg b.cells] (.tup [rows 3 ((stepF2 a b).map Flt.row), .lit (.int .i64 (stepE2 a b))]) := by
  obtain ⟨⟨hng, hnk, hnu, hnt, hns, hnsp⟩, h12, hp12⟩ := id hq
  obtain ⟨⟨hng', hnk', hnu', hnt', hns', hnsp'⟩, h12', hp12'⟩ := id hq'
  refine Pure_at Tryd.func18 rfl 145 rfl (Nat.le_of_ble_eq_true rfl) rfl fun k => ?_
  obtain ⟨R, eR⟩ : ∃ R, R = (stepF2 a b).map Flt.row := ⟨_, rfl⟩
  obtain ⟨E, eE⟩ : ∃ E, E = stepE2 a b := ⟨_, rfl⟩
  rw [← eR, ← eE]
  (repeat' (first | (refine C_seq rfl ?_) | (refine C_block rfl ?_) | (refine C_skip rfl ?_; (try simp -dsimp -implicitDefEqProofs only [go_sem, eq_self, ↓reduceIte])) | (refine C_exit rfl ?_; (try simp -dsimp -implicitDefEqProofs only [go_sem, eq_self, ↓reduceIte])) | (refine C_cond rfl _ rfl (fun ht => ?_) (fun ht => ?_) <;> (try (simp only [nf] at ht)) <;> (try (exfalso; omega))) | ((first | (refine S_reg0 rfl [0,1,2,3,4,5,6,7,8,9,10,11,21,57,76,83,96,106,116,137] rfl rfl (fun K hK => ?_)) | (refine S_drw0 rfl [0,1,2,3,4,5,6,7,8,9,10,11,21,57,76,83,96,106,116,137] rfl (by kernel_rfl) rfl (fun K hK => ?_))); simp -dsimp -implicitDefEqProofs only [go_sem, eq_self, ↓reduceIte]; (repeat' (first | (refine And.intro ?_ ?_) | (refine gs_both (fun hb => ?_) (fun hb => ?_) <;> (have hg := hb; (try simp only [nfb] at hg); simp -dsimp -implicitDefEqProofs only [go_sem, hb, hg, eq_self, ↓reduceIte]; clear hb; (try simp only [nfe] at hg))))); any_goals ((first | (refine hK _ _ _ _ (fun hx => ?_)) | (refine hK _ _ _ _ (drawOk_names (fun i => i - k) (by simp only [List.map_cons, List.map_nil, shG, ↓reduceIte, Nat.add_sub_cancel_left, Nat.sub_self]; rfl) (by decide +kernel) (by simp -dsimp -implicitDefEqProofs only [go_sem, eq_self, ↓reduceIte])) (fun hx => ?_)) | (refine hK _ _ _ _ (drawOk_of (by kernel_rfl) (by simp -dsimp -implicitDefEqProofs only [go_sem, eq_self, ↓reduceIte])) (fun hx => ?_))); clear hx hK; simp -dsimp -implicitDefEqProofs only [go_sem, eq_self, ↓reduceIte]; (try simp (disch := omega) only [wrap_i64, wrap_u64, wrap_u32, wrap_u8]))) | omega))
  refine S_reg rfl [0,1,2,3,4,5,6,7,8,9,10,11,21,57,76,83,96,106,116,137] [.ret (.rd 3 (checkR a).length (fun j => ((checkR a).map Flt.row).getD j [])), .ret (.rd 3 (checkR b).length (fun j => ((checkR b).map Flt.row).getD j []))] rfl (fun K hK => ?_); simp -dsimp -implicitDefEqProofs only [go_sem, eq_self, ↓reduceIte]; (repeat' (first | (refine And.intro ?_ ?_) | (refine gs_both (fun hb => ?_) (fun hb => ?_) <;> (have hg := hb; (try simp only [nfb] at hg); simp -dsimp -implicitDefEqProofs only [go_sem, hb, hg, eq_self, ↓reduceIte]; clear hb; (try simp only [nfe] at hg))))); (any_goals ((refine hK _ _ _ _ (fun hx => ?_)); clear hx hK; simp -dsimp -implicitDefEqProofs only [go_sem, eq_self, ↓reduceIte]; (try simp (disch := omega) only [wrap_i64, wrap_u64, wrap_u32, wrap_u8]))); (all_goals (try omega))
  · have h := check_ref' (Γ := Γ) a hq hk
    rw [rows, List.length_map] at h
    exact h
  · have h := check_ref' (Γ := Γ) b hq' hk'
    rw [rows, List.length_map] at h
    exact h
  · have ha : (checkR a).length = 0 := by omega
    refine C_cond rfl _ rfl (fun ht => ?_) (fun hf => ?_)
    · have hbad : badP a b := .inr (by simp only [decide_eq_true_eq] at ht; omega)
      (repeat' (first | (refine C_seq rfl ?_) | (refine C_block rfl ?_) | (refine C_skip rfl ?_; (try simp -dsimp -implicitDefEqProofs only [go_sem, eq_self, ↓reduceIte])) | (refine C_exit rfl ?_; (try simp -dsimp -implicitDefEqProofs only [go_sem, eq_self, ↓reduceIte])) | (refine C_cond rfl _ rfl (fun ht => ?_) (fun ht => ?_) <;> (try (simp only [nf] at ht)) <;> (try (exfalso; omega))) | ((first | (refine S_reg0 rfl [0,1,2,3,4,5,6,7,8,9,10,11,21,57,76,83,96,106,116,137] rfl rfl (fun K hK => ?_)) | (refine S_drw0 rfl [0,1,2,3,4,5,6,7,8,9,10,11,21,57,76,83,96,106,116,137] rfl (by kernel_rfl) rfl (fun K hK => ?_))); simp -dsimp -implicitDefEqProofs only [go_sem, eq_self, ↓reduceIte]; (repeat' (first | (refine And.intro ?_ ?_) | (refine gs_both (fun hb => ?_) (fun hb => ?_) <;> (have hg := hb; (try simp only [nfb] at hg); simp -dsimp -implicitDefEqProofs only [go_sem, hb, hg, eq_self, ↓reduceIte]; clear hb; (try simp only [nfe] at hg))))); any_goals ((first | (refine hK _ _ _ _ (fun hx => ?_)) | (refine hK _ _ _ _ (drawOk_names (fun i => i - k) (by simp only [List.map_cons, List.map_nil, shG, ↓reduceIte, Nat.add_sub_cancel_left, Nat.sub_self]; rfl) (by decide +kernel) (by simp -dsimp -implicitDefEqProofs only [go_sem, eq_self, ↓reduceIte])) (fun hx => ?_)) | (refine hK _ _ _ _ (drawOk_of (by kernel_rfl) (by simp -dsimp -implicitDefEqProofs only [go_sem, eq_self, ↓reduceIte])) (fun hx => ?_))); clear hx hK; simp -dsimp -implicitDefEqProofs only [go_sem, eq_self, ↓reduceIte]; (try simp (disch := omega) only [wrap_i64, wrap_u64, wrap_u32, wrap_u8]))) | omega))
      refine C_ret rfl ⟨_, rfl, ?_⟩
      rw [eR, eE, stepF2, stepE2, if_pos hbad, if_pos hbad]
      exact VLe.tups (.cons (VLe.nil _ _) (.cons (VLe.refl _) .nil))
    · have hb : (checkR b).length = 0 := by simp only [decide_eq_false_iff_not] at hf; omega
      have hnb : ¬ badP a b := by unfold badP; omega
      have hE : E = 0 := by rw [eE, stepE2, if_neg hnb]
      have hRr : R = (if alB a b a.ng = false then [⟨17, 0, 0⟩] else movesL a b).map Flt.row := by rw [eR, stepF2, if_neg hnb]
      clear eR eE
      subst hE
      refine C_skip rfl ?_; simp -dsimp -implicitDefEqProofs only [go_sem, eq_self, ↓reduceIte]
      refine M_midO (X := Bool) rfl [0,1,2,3,4,5,6,7,8,9,10,11,21,57,76,83,96,106,116,137] (k + 2) (fun x => [(6, .lit (.bool x))]) (fun x => [(k + 1, ⟨7, true, [b.cells]⟩), (k, ⟨7, true, [a.cells]⟩)]) (fun x => x = alB a b 0) ?_ ?_
      · (repeat' (first | (refine C_seq rfl ?_) | (refine C_block rfl ?_) | (refine C_skip rfl ?_; (try simp -dsimp -implicitDefEqProofs only [go_sem, eq_self, ↓reduceIte])) | (refine C_exit rfl ?_; (try simp -dsimp -implicitDefEqProofs only [go_sem, eq_self, ↓reduceIte])) | (refine C_cond rfl _ rfl (fun ht => ?_) (fun ht => ?_) <;> (try (simp only [nf] at ht)) <;> (try (exfalso; omega))) | ((first | (refine S_reg0 rfl [0,1,2,3,4,5,6,7,8,9,10,11,21,57,76,83,96,106,116,137] rfl rfl (fun K hK => ?_)) | (refine S_drw0 rfl [0,1,2,3,4,5,6,7,8,9,10,11,21,57,76,83,96,106,116,137] rfl (by kernel_rfl) rfl (fun K hK => ?_))); simp -dsimp -implicitDefEqProofs only [go_sem, eq_self, ↓reduceIte]; (repeat' (first | (refine And.intro ?_ ?_) | (refine gs_both (fun hb => ?_) (fun hb => ?_) <;> (have hg := hb; (try simp only [nfb] at hg); simp -dsimp -implicitDefEqProofs only [go_sem, hb, hg, eq_self, ↓reduceIte]; clear hb; (try simp only [nfe] at hg))))); any_goals ((first | (refine hK _ _ _ _ (fun hx => ?_)) | (refine hK _ _ _ _ (drawOk_names (fun i => i - k) (by simp only [List.map_cons, List.map_nil, shG, ↓reduceIte, Nat.add_sub_cancel_left, Nat.sub_self]; rfl) (by decide +kernel) (by simp -dsimp -implicitDefEqProofs only [go_sem, eq_self, ↓reduceIte])) (fun hx => ?_)) | (refine hK _ _ _ _ (drawOk_of (by kernel_rfl) (by simp -dsimp -implicitDefEqProofs only [go_sem, eq_self, ↓reduceIte])) (fun hx => ?_))); clear hx hK; simp -dsimp -implicitDefEqProofs only [go_sem, eq_self, ↓reduceIte]; (try simp (disch := omega) only [wrap_i64, wrap_u64, wrap_u32, wrap_u8]))) | omega))
        · refine ⟨((a.ng : Int) == (b.ng : Int)), ?_, ?_⟩
          · rw [Bool.eq_iff_iff, beq_iff_eq, alB, decide_eq_true_eq]
            exact ⟨fun h => ⟨by assumption, by assumption, by omega, fun g hg => absurd hg (Nat.not_lt_zero _)⟩, fun h => by omega⟩
          · exact Mv.wk (wk_low (by omega) (by simp -dsimp -implicitDefEqProofs only [go_sem, List.map_append, List.map_cons, List.map_nil, Flt.row, eq_self, ↓reduceIte]) (by simp -dsimp -implicitDefEqProofs only [go_sem, List.map_append, List.map_cons, List.map_nil, Flt.row, eq_self, ↓reduceIte]) (by simp -dsimp -implicitDefEqProofs only [go_sem, List.map_append, List.map_cons, List.map_nil, Flt.row, eq_self, ↓reduceIte]) (by simp -dsimp -implicitDefEqProofs only [go_sem, List.map_append, List.map_cons, List.map_nil, Flt.row, eq_self, ↓reduceIte]))
        · refine ⟨false, ?_, ?_⟩
          · rw [alB, decide_eq_false]
            rintro ⟨h1, h2, _⟩; contradiction
          · exact Mv.wk (wk_low (by omega) (by simp -dsimp -implicitDefEqProofs only [go_sem, List.map_append, List.map_cons, List.map_nil, Flt.row, eq_self, ↓reduceIte]) (by simp -dsimp -implicitDefEqProofs only [go_sem, List.map_append, List.map_cons, List.map_nil, Flt.row, eq_self, ↓reduceIte]) (by simp -dsimp -implicitDefEqProofs only [go_sem, List.map_append, List.map_cons, List.map_nil, Flt.row, eq_self, ↓reduceIte]) (by simp -dsimp -implicitDefEqProofs only [go_sem, List.map_append, List.map_cons, List.map_nil, Flt.row, eq_self, ↓reduceIte]))
        · refine ⟨false, ?_, ?_⟩
          · rw [alB, decide_eq_false]
            rintro ⟨h1, h2, _⟩; contradiction
          · exact Mv.wk (wk_low (by omega) (by simp -dsimp -implicitDefEqProofs only [go_sem, List.map_append, List.map_cons, List.map_nil, Flt.row, eq_self, ↓reduceIte]) (by simp -dsimp -implicitDefEqProofs only [go_sem, List.map_append, List.map_cons, List.map_nil, Flt.row, eq_self, ↓reduceIte]) (by simp -dsimp -implicitDefEqProofs only [go_sem, List.map_append, List.map_cons, List.map_nil, Flt.row, eq_self, ↓reduceIte]) (by simp -dsimp -implicitDefEqProofs only [go_sem, List.map_append, List.map_cons, List.map_nil, Flt.row, eq_self, ↓reduceIte]))
      · rintro x rfl
        simp -dsimp -implicitDefEqProofs only [go_sem, eq_self, ↓reduceIte]
        (repeat' (first | (refine C_seq rfl ?_) | (refine C_block rfl ?_) | (refine C_skip rfl ?_; (try simp -dsimp -implicitDefEqProofs only [go_sem, eq_self, ↓reduceIte])) | (refine C_exit rfl ?_; (try simp -dsimp -implicitDefEqProofs only [go_sem, eq_self, ↓reduceIte])) | (refine C_cond rfl _ rfl (fun ht => ?_) (fun ht => ?_) <;> (try (simp only [nf] at ht)) <;> (try (exfalso; omega))) | ((first | (refine S_reg0 rfl [0,1,2,3,4,5,6,7,8,9,10,11,21,57,76,83,96,106,116,137] rfl rfl (fun K hK => ?_)) | (refine S_drw0 rfl [0,1,2,3,4,5,6,7,8,9,10,11,21,57,76,83,96,106,116,137] rfl (by kernel_rfl) rfl (fun K hK => ?_))); simp -dsimp -implicitDefEqProofs only [go_sem, eq_self, ↓reduceIte]; (repeat' (first | (refine And.intro ?_ ?_) | (refine gs_both (fun hb => ?_) (fun hb => ?_) <;> (have hg := hb; (try simp only [nfb] at hg); simp -dsimp -implicitDefEqProofs only [go_sem, hb, hg, eq_self, ↓reduceIte]; clear hb; (try simp only [nfe] at hg))))); any_goals ((first | (refine hK _ _ _ _ (fun hx => ?_)) | (refine hK _ _ _ _ (drawOk_names (fun i => i - k) (by simp only [List.map_cons, List.map_nil, shG, ↓reduceIte, Nat.add_sub_cancel_left, Nat.sub_self]; rfl) (by decide +kernel) (by simp -dsimp -implicitDefEqProofs only [go_sem, eq_self, ↓reduceIte])) (fun hx => ?_)) | (refine hK _ _ _ _ (drawOk_of (by kernel_rfl) (by simp -dsimp -implicitDefEqProofs only [go_sem, eq_self, ↓reduceIte])) (fun hx => ?_))); clear hx hK; simp -dsimp -implicitDefEqProofs only [go_sem, eq_self, ↓reduceIte]; (try simp (disch := omega) only [wrap_i64, wrap_u64, wrap_u32, wrap_u8]))) | omega))
        refine M_forO (X := Nat) rfl [0,1,2,3,4,5,6,7,8,9,10,11,21,57,76,83,96,106,116,137] (k + 2) (fun i => [(7, .lit (.int .i64 (i : Int))), (6, .lit (.bool (alB a b i)))]) (fun i => [(k + 1, ⟨7, true, [b.cells]⟩), (k, ⟨7, true, [a.cells]⟩)]) (fun i => i ≤ a.ng) (fun i => a.ng - i) 0 ?_ (Nat.zero_le _) ?_
        · simp -dsimp -implicitDefEqProofs only [go_sem, eq_self, ↓reduceIte]
          exact Mv.wk (wk_low (by omega) (by simp -dsimp -implicitDefEqProofs only [go_sem, List.map_append, List.map_cons, List.map_nil, Flt.row, eq_self, ↓reduceIte]) (by simp -dsimp -implicitDefEqProofs only [go_sem, List.map_append, List.map_cons, List.map_nil, Flt.row, eq_self, ↓reduceIte]) (by simp -dsimp -implicitDefEqProofs only [go_sem, List.map_append, List.map_cons, List.map_nil, Flt.row, eq_self, ↓reduceIte]) (by simp -dsimp -implicitDefEqProofs only [go_sem, List.map_append, List.map_cons, List.map_nil, Flt.row, eq_self, ↓reduceIte]))
        intro i hi
        simp -dsimp -implicitDefEqProofs only [go_sem, eq_self, ↓reduceIte]
        by_cases hal : alB a b i = true
        · have hal' := hal
          rw [alB, decide_eq_true_eq] at hal'
          obtain ⟨e1, e2, e3, e4⟩ := hal'
          (repeat' (first | (refine C_seq rfl ?_) | (refine C_block rfl ?_) | (refine C_skip rfl ?_; (try simp -dsimp -implicitDefEqProofs only [go_sem, hal, eq_self, ↓reduceIte])) | (refine C_exit rfl ?_; (try simp -dsimp -implicitDefEqProofs only [go_sem, hal, eq_self, ↓reduceIte])) | (refine C_cond rfl _ rfl (fun ht => ?_) (fun ht => ?_) <;> (try (simp only [nf] at ht)) <;> (try (exfalso; omega))) | ((first | (refine S_reg0 rfl [0,1,2,3,4,5,6,7,8,9,10,11,21,57,76,83,96,106,116,137] rfl rfl (fun K hK => ?_)) | (refine S_drw0 rfl [0,1,2,3,4,5,6,7,8,9,10,11,21,57,76,83,96,106,116,137] rfl (by kernel_rfl) rfl (fun K hK => ?_))); simp -dsimp -implicitDefEqProofs only [go_sem, hal, eq_self, ↓reduceIte]; (repeat' (first | (refine And.intro ?_ ?_) | (refine gs_both (fun hb => ?_) (fun hb => ?_) <;> (have hg := hb; (try simp only [nfb] at hg); simp -dsimp -implicitDefEqProofs only [go_sem, hal, hb, hg, eq_self, ↓reduceIte]; clear hb; (try simp only [nfe] at hg))))); any_goals ((first | (refine hK _ _ _ _ (fun hx => ?_)) | (refine hK _ _ _ _ (drawOk_names (fun i => i - k) (by simp only [List.map_cons, List.map_nil, shG, hal, ↓reduceIte, Nat.add_sub_cancel_left, Nat.sub_self]; rfl) (by decide +kernel) (by simp -dsimp -implicitDefEqProofs only [go_sem, hal, eq_self, ↓reduceIte])) (fun hx => ?_)) | (refine hK _ _ _ _ (drawOk_of (by kernel_rfl) (by simp -dsimp -implicitDefEqProofs only [go_sem, hal, eq_self, ↓reduceIte])) (fun hx => ?_))); clear hx hK; simp -dsimp -implicitDefEqProofs only [go_sem, hal, eq_self, ↓reduceIte]; (try simp (disch := omega) only [wrap_i64, wrap_u64, wrap_u32, wrap_u8]))) | omega))
          · refine ⟨i + 1, by omega, by omega, ?_⟩
            have hx : alB a b (i + 1) = (a.par i == b.par i) := by
              rw [Bool.eq_iff_iff, beq_iff_eq, alB, decide_eq_true_eq]
              exact ⟨fun h => h.2.2.2 i (by omega), fun h => ⟨e1, e2, e3, fun g hg => by
                by_cases he : g = i
                · subst he; exact h
                · exact e4 g (by omega)⟩⟩
            rw [hx]
            simp -dsimp -implicitDefEqProofs only [go_sem, hal, eq_self, ↓reduceIte]
            exact Mv.wk (wk_low (by omega) (by simp -dsimp -implicitDefEqProofs only [go_sem, hal, List.map_append, List.map_cons, List.map_nil, Flt.row, eq_self, ↓reduceIte]) (by simp -dsimp -implicitDefEqProofs only [go_sem, hal, List.map_append, List.map_cons, List.map_nil, Flt.row, eq_self, ↓reduceIte]) (by simp -dsimp -implicitDefEqProofs only [go_sem, hal, List.map_append, List.map_cons, List.map_nil, Flt.row, eq_self, ↓reduceIte]) (by simp -dsimp -implicitDefEqProofs only [go_sem, hal, List.map_append, List.map_cons, List.map_nil, Flt.row, eq_self, ↓reduceIte]))
          · have hin : i = a.ng := by omega
            subst hin
            have hall : alB a b a.ng = true := hal
            rw [if_neg (by rw [hall]; simp)] at hRr
            obtain ⟨gnk, gns, gnsp⟩ := alike_of ha hb hall
            refine M_forO (X := Nat) rfl [0,1,2,3,4,5,6,7,8,9,10,11,21,57,76,83,96,106,116,137] (k + 3) (fun c => [(9, .lit (.int .i64 (c : Int))), (8, accV (k + 2) ((flats (backAt a b) c).map Flt.row))]) (fun c => accH (k + 2) 3 ((flats (backAt a b) c).map Flt.row) [(k + 1, ⟨7, true, [b.cells]⟩), (k, ⟨7, true, [a.cells]⟩)]) (fun c => c ≤ a.nk) (fun c => a.nk - c) 0 ?_ (Nat.zero_le _) ?_
            · rw [flats_zero, List.map_nil]
              simp -dsimp -implicitDefEqProofs only [go_sem, eq_self, ↓reduceIte]
              exact Mv.wk (wk_low (by omega) (by simp -dsimp -implicitDefEqProofs only [go_sem, List.map_append, List.map_cons, List.map_nil, Flt.row, eq_self, ↓reduceIte]) (by simp -dsimp -implicitDefEqProofs only [go_sem, List.map_append, List.map_cons, List.map_nil, Flt.row, eq_self, ↓reduceIte]) (by simp -dsimp -implicitDefEqProofs only [go_sem, List.map_append, List.map_cons, List.map_nil, Flt.row, eq_self, ↓reduceIte]) (by simp -dsimp -implicitDefEqProofs only [go_sem, List.map_append, List.map_cons, List.map_nil, Flt.row, eq_self, ↓reduceIte]))
            intro c hc
            have hfl := flats_len (f := backAt a b) (m := 1) (fun c => iff1_len1 _ _) c
            obtain ⟨l1, e1, h1⟩ : ∃ x, x = flats (backAt a b) c ∧ x.length ≤ c := ⟨_, rfl, by omega⟩
            rw [← e1]
            have hsucc : flats (backAt a b) (c + 1) = l1 ++ backAt a b c := by rw [e1]; rfl
            simp -dsimp -implicitDefEqProofs only [go_sem, eq_self, ↓reduceIte]
            (repeat' (first | (refine C_seq rfl ?_) | (refine C_block rfl ?_) | (refine C_skip rfl ?_; (try simp -dsimp -implicitDefEqProofs only [go_sem, eq_self, ↓reduceIte])) | (refine C_exit rfl ?_; (try simp -dsimp -implicitDefEqProofs only [go_sem, eq_self, ↓reduceIte])) | (refine C_cond rfl _ rfl (fun ht => ?_) (fun ht => ?_) <;> (try (simp only [nf] at ht)) <;> (try (exfalso; omega))) | ((first | (refine S_reg0 rfl [0,1,2,3,4,5,6,7,8,9,10,11,21,57,76,83,96,106,116,137] rfl rfl (fun K hK => ?_)) | (refine S_drw0 rfl [0,1,2,3,4,5,6,7,8,9,10,11,21,57,76,83,96,106,116,137] rfl (by kernel_rfl) rfl (fun K hK => ?_))); simp -dsimp -implicitDefEqProofs only [go_sem, eq_self, ↓reduceIte]; (repeat' (first | (refine And.intro ?_ ?_) | (refine gs_both (fun hb => ?_) (fun hb => ?_) <;> (have hg := hb; (try simp only [nfb] at hg); simp -dsimp -implicitDefEqProofs only [go_sem, hb, hg, eq_self, ↓reduceIte]; clear hb; (try simp only [nfe] at hg))))); any_goals ((first | (refine hK _ _ _ _ (fun hx => ?_)) | (refine hK _ _ _ _ (drawOk_names (fun i => i - k) (by simp only [List.map_cons, List.map_nil, shG, ↓reduceIte, Nat.add_sub_cancel_left, Nat.sub_self]; rfl) (by decide +kernel) (by simp -dsimp -implicitDefEqProofs only [go_sem, eq_self, ↓reduceIte])) (fun hx => ?_)) | (refine hK _ _ _ _ (drawOk_of (by kernel_rfl) (by simp -dsimp -implicitDefEqProofs only [go_sem, eq_self, ↓reduceIte])) (fun hx => ?_))); clear hx hK; simp -dsimp -implicitDefEqProofs only [go_sem, eq_self, ↓reduceIte]; (try simp (disch := omega) only [wrap_i64, wrap_u64, wrap_u32, wrap_u8]))) | omega))
            · refine ⟨c + 1, by omega, by omega, ?_⟩
              rw [hsucc, show backAt a b c = [⟨15, (c : Int), 0⟩] by rw [backAt, decide_eq_true (by omega)]; rfl]
              simp -dsimp -implicitDefEqProofs only [go_sem, eq_self, ↓reduceIte]
              exact Mv.app (k + 4) (k + 2) ⟨by omega, by omega⟩ ⟨by omega, by omega⟩ (wk_low (by omega) (by simp -dsimp -implicitDefEqProofs only [go_sem, List.map_append, List.map_cons, List.map_nil, Flt.row, eq_self, ↓reduceIte]) (by simp -dsimp -implicitDefEqProofs only [go_sem, List.map_append, List.map_cons, List.map_nil, Flt.row, eq_self, ↓reduceIte]) (by simp -dsimp -implicitDefEqProofs only [go_sem, List.map_append, List.map_cons, List.map_nil, Flt.row, eq_self, ↓reduceIte]) (by simp -dsimp -implicitDefEqProofs only [go_sem, List.map_append, List.map_cons, List.map_nil, Flt.row, eq_self, ↓reduceIte]))
            · refine ⟨c + 1, by omega, by omega, ?_⟩
              rw [hsucc, show backAt a b c = [] by rw [backAt, decide_eq_false (by omega)]; rfl, List.append_nil]
              simp -dsimp -implicitDefEqProofs only [go_sem, eq_self, ↓reduceIte]
              exact Mv.wk (wk_low (by omega) (by simp -dsimp -implicitDefEqProofs only [go_sem, List.map_append, List.map_cons, List.map_nil, Flt.row, eq_self, ↓reduceIte]) (by simp -dsimp -implicitDefEqProofs only [go_sem, List.map_append, List.map_cons, List.map_nil, Flt.row, eq_self, ↓reduceIte]) (by simp -dsimp -implicitDefEqProofs only [go_sem, List.map_append, List.map_cons, List.map_nil, Flt.row, eq_self, ↓reduceIte]) (by simp -dsimp -implicitDefEqProofs only [go_sem, List.map_append, List.map_cons, List.map_nil, Flt.row, eq_self, ↓reduceIte]))
            have hcn : c = a.nk := by omega
            subst hcn
            clear hsucc hfl
            refine M_forO (X := Nat) rfl [0,1,2,3,4,5,6,7,8,9,10,11,21,57,76,83,96,106,116,137] (k + 3) (fun g => [(10, .lit (.int .i64 (g : Int))), (8, accV (k + 2) ((l1 ++ flats (fellR a b) g).map Flt.row))]) (fun g => accH (k + 2) 3 ((l1 ++ flats (fellR a b) g).map Flt.row) [(k + 1, ⟨7, true, [b.cells]⟩), (k, ⟨7, true, [a.cells]⟩)]) (fun g => g ≤ a.ns) (fun g => a.ns - g) 0 ?_ (Nat.zero_le _) ?_
            · rw [flats_zero, List.append_nil]
              simp -dsimp -implicitDefEqProofs only [go_sem, eq_self, ↓reduceIte]
              exact Mv.wk (wk_low (by omega) (by simp -dsimp -implicitDefEqProofs only [go_sem, List.map_append, List.map_cons, List.map_nil, Flt.row, eq_self, ↓reduceIte]) (by simp -dsimp -implicitDefEqProofs only [go_sem, List.map_append, List.map_cons, List.map_nil, Flt.row, eq_self, ↓reduceIte]) (by simp -dsimp -implicitDefEqProofs only [go_sem, List.map_append, List.map_cons, List.map_nil, Flt.row, eq_self, ↓reduceIte]) (by simp -dsimp -implicitDefEqProofs only [go_sem, List.map_append, List.map_cons, List.map_nil, Flt.row, eq_self, ↓reduceIte]))
            intro g hg2
            have hfl := flats_len' (f := fellR a b) (m := 12) g (fun g' hg' => by have := flats_len (f := fellAt a b g') (m := 1) (fun i => iff1_len1 _ _) (a.nsp g'); have := hp12 g' (by omega); unfold fellR; omega)
            obtain ⟨l2, e2', h2⟩ : ∃ x, x = l1 ++ flats (fellR a b) g ∧ x.length ≤ l1.length + g * 12 := ⟨_, rfl, by simp; omega⟩
            rw [← e2']
            have hsucc2 : l1 ++ flats (fellR a b) (g + 1) = l2 ++ flats (fellAt a b g) (a.nsp g) := by rw [e2', flats_succ, List.append_assoc]; rfl
            simp -dsimp -implicitDefEqProofs only [go_sem, eq_self, ↓reduceIte]
            (repeat' (first | (refine C_seq rfl ?_) | (refine C_block rfl ?_) | (refine C_skip rfl ?_; (try simp -dsimp -implicitDefEqProofs only [go_sem, eq_self, ↓reduceIte])) | (refine C_exit rfl ?_; (try simp -dsimp -implicitDefEqProofs only [go_sem, eq_self, ↓reduceIte])) | (refine C_cond rfl _ rfl (fun ht => ?_) (fun ht => ?_) <;> (try (simp only [nf] at ht)) <;> (try (exfalso; omega))) | ((first | (refine S_reg0 rfl [0,1,2,3,4,5,6,7,8,9,10,11,21,57,76,83,96,106,116,137] rfl rfl (fun K hK => ?_)) | (refine S_drw0 rfl [0,1,2,3,4,5,6,7,8,9,10,11,21,57,76,83,96,106,116,137] rfl (by kernel_rfl) rfl (fun K hK => ?_))); simp -dsimp -implicitDefEqProofs only [go_sem, eq_self, ↓reduceIte]; (repeat' (first | (refine And.intro ?_ ?_) | (refine gs_both (fun hb => ?_) (fun hb => ?_) <;> (have hg := hb; (try simp only [nfb] at hg); simp -dsimp -implicitDefEqProofs only [go_sem, hb, hg, eq_self, ↓reduceIte]; clear hb; (try simp only [nfe] at hg))))); any_goals ((first | (refine hK _ _ _ _ (fun hx => ?_)) | (refine hK _ _ _ _ (drawOk_names (fun i => i - k) (by simp only [List.map_cons, List.map_nil, shG, ↓reduceIte, Nat.add_sub_cancel_left, Nat.sub_self]; rfl) (by decide +kernel) (by simp -dsimp -implicitDefEqProofs only [go_sem, eq_self, ↓reduceIte])) (fun hx => ?_)) | (refine hK _ _ _ _ (drawOk_of (by kernel_rfl) (by simp -dsimp -implicitDefEqProofs only [go_sem, eq_self, ↓reduceIte])) (fun hx => ?_))); clear hx hK; simp -dsimp -implicitDefEqProofs only [go_sem, eq_self, ↓reduceIte]; (try simp (disch := omega) only [wrap_i64, wrap_u64, wrap_u32, wrap_u8]))) | omega))
            · have hpg : a.nsp g ≤ 12 := hp12 g (by omega)
              have hpg' : b.nsp g = a.nsp g := gnsp g (by omega)
              refine M_forO (X := Nat) rfl [0,1,2,3,4,5,6,7,8,9,10,11,21,57,76,83,96,106,116,137] (k + 3) (fun c => [(11, .lit (.int .i64 (c : Int))), (8, accV (k + 2) ((l2 ++ flats (fellAt a b g) c).map Flt.row))]) (fun c => accH (k + 2) 3 ((l2 ++ flats (fellAt a b g) c).map Flt.row) [(k + 1, ⟨7, true, [b.cells]⟩), (k, ⟨7, true, [a.cells]⟩)]) (fun c => c ≤ a.nsp g) (fun c => a.nsp g - c) 0 ?_ (Nat.zero_le _) ?_
              · rw [flats_zero, List.append_nil]
                simp -dsimp -implicitDefEqProofs only [go_sem, eq_self, ↓reduceIte]
                exact Mv.wk (wk_low (by omega) (by simp -dsimp -implicitDefEqProofs only [go_sem, List.map_append, List.map_cons, List.map_nil, Flt.row, eq_self, ↓reduceIte]) (by simp -dsimp -implicitDefEqProofs only [go_sem, List.map_append, List.map_cons, List.map_nil, Flt.row, eq_self, ↓reduceIte]) (by simp -dsimp -implicitDefEqProofs only [go_sem, List.map_append, List.map_cons, List.map_nil, Flt.row, eq_self, ↓reduceIte]) (by simp -dsimp -implicitDefEqProofs only [go_sem, List.map_append, List.map_cons, List.map_nil, Flt.row, eq_self, ↓reduceIte]))
              intro c hc
              have hfi := flats_len (f := fellAt a b g) (m := 1) (fun i => iff1_len1 _ _) c
              obtain ⟨l3, e3', h3⟩ : ∃ x, x = l2 ++ flats (fellAt a b g) c ∧ x.length ≤ l2.length + c := ⟨_, rfl, by simp; omega⟩
              rw [← e3']
              have hsucc3 : l2 ++ flats (fellAt a b g) (c + 1) = l3 ++ fellAt a b g c := by rw [e3', flats_succ, List.append_assoc]
              simp -dsimp -implicitDefEqProofs only [go_sem, eq_self, ↓reduceIte]
              (repeat' (first | (refine C_seq rfl ?_) | (refine C_block rfl ?_) | (refine C_skip rfl ?_; (try simp -dsimp -implicitDefEqProofs only [go_sem, eq_self, ↓reduceIte])) | (refine C_exit rfl ?_; (try simp -dsimp -implicitDefEqProofs only [go_sem, eq_self, ↓reduceIte])) | (refine C_cond rfl _ rfl (fun ht => ?_) (fun ht => ?_) <;> (try (simp only [nf] at ht)) <;> (try (exfalso; omega))) | ((first | (refine S_reg0 rfl [0,1,2,3,4,5,6,7,8,9,10,11,21,57,76,83,96,106,116,137] rfl rfl (fun K hK => ?_)) | (refine S_drw0 rfl [0,1,2,3,4,5,6,7,8,9,10,11,21,57,76,83,96,106,116,137] rfl (by kernel_rfl) rfl (fun K hK => ?_))); simp -dsimp -implicitDefEqProofs only [go_sem, eq_self, ↓reduceIte]; (repeat' (first | (refine And.intro ?_ ?_) | (refine gs_both (fun hb => ?_) (fun hb => ?_) <;> (have hg := hb; (try simp only [nfb] at hg); simp -dsimp -implicitDefEqProofs only [go_sem, hb, hg, eq_self, ↓reduceIte]; clear hb; (try simp only [nfe] at hg))))); any_goals ((first | (refine hK _ _ _ _ (fun hx => ?_)) | (refine hK _ _ _ _ (drawOk_names (fun i => i - k) (by simp only [List.map_cons, List.map_nil, shG, ↓reduceIte, Nat.add_sub_cancel_left, Nat.sub_self]; rfl) (by decide +kernel) (by simp -dsimp -implicitDefEqProofs only [go_sem, eq_self, ↓reduceIte])) (fun hx => ?_)) | (refine hK _ _ _ _ (drawOk_of (by kernel_rfl) (by simp -dsimp -implicitDefEqProofs only [go_sem, eq_self, ↓reduceIte])) (fun hx => ?_))); clear hx hK; simp -dsimp -implicitDefEqProofs only [go_sem, eq_self, ↓reduceIte]; (try simp (disch := omega) only [wrap_i64, wrap_u64, wrap_u32, wrap_u8]))) | omega))
              · refine ⟨c + 1, by omega, by omega, ?_⟩
                rw [hsucc3, show fellAt a b g c = [⟨16, (g : Int), (c : Int)⟩] by rw [fellAt, decide_eq_true (by omega)]; rfl]
                simp -dsimp -implicitDefEqProofs only [go_sem, eq_self, ↓reduceIte]
                exact Mv.app (k + 4) (k + 2) ⟨by omega, by omega⟩ ⟨by omega, by omega⟩ (wk_low (by omega) (by simp -dsimp -implicitDefEqProofs only [go_sem, List.map_append, List.map_cons, List.map_nil, Flt.row, eq_self, ↓reduceIte]) (by simp -dsimp -implicitDefEqProofs only [go_sem, List.map_append, List.map_cons, List.map_nil, Flt.row, eq_self, ↓reduceIte]) (by simp -dsimp -implicitDefEqProofs only [go_sem, List.map_append, List.map_cons, List.map_nil, Flt.row, eq_self, ↓reduceIte]) (by simp -dsimp -implicitDefEqProofs only [go_sem, List.map_append, List.map_cons, List.map_nil, Flt.row, eq_self, ↓reduceIte]))
              · refine ⟨c + 1, by omega, by omega, ?_⟩
                rw [hsucc3, show fellAt a b g c = [] by rw [fellAt, decide_eq_false (by omega)]; rfl, List.append_nil]
                simp -dsimp -implicitDefEqProofs only [go_sem, eq_self, ↓reduceIte]
                exact Mv.wk (wk_low (by omega) (by simp -dsimp -implicitDefEqProofs only [go_sem, List.map_append, List.map_cons, List.map_nil, Flt.row, eq_self, ↓reduceIte]) (by simp -dsimp -implicitDefEqProofs only [go_sem, List.map_append, List.map_cons, List.map_nil, Flt.row, eq_self, ↓reduceIte]) (by simp -dsimp -implicitDefEqProofs only [go_sem, List.map_append, List.map_cons, List.map_nil, Flt.row, eq_self, ↓reduceIte]) (by simp -dsimp -implicitDefEqProofs only [go_sem, List.map_append, List.map_cons, List.map_nil, Flt.row, eq_self, ↓reduceIte]))
              · have hcn : c = a.nsp g := by omega
                refine ⟨g + 1, by omega, by omega, ?_⟩
                rw [hsucc2, ← hcn, ← e3']
                simp -dsimp -implicitDefEqProofs only [go_sem, eq_self, ↓reduceIte]
                exact Mv.wk (wk_low (by omega) (by simp -dsimp -implicitDefEqProofs only [go_sem, List.map_append, List.map_cons, List.map_nil, Flt.row, eq_self, ↓reduceIte]) (by simp -dsimp -implicitDefEqProofs only [go_sem, List.map_append, List.map_cons, List.map_nil, Flt.row, eq_self, ↓reduceIte]) (by simp -dsimp -implicitDefEqProofs only [go_sem, List.map_append, List.map_cons, List.map_nil, Flt.row, eq_self, ↓reduceIte]) (by simp -dsimp -implicitDefEqProofs only [go_sem, List.map_append, List.map_cons, List.map_nil, Flt.row, eq_self, ↓reduceIte]))
            · have hgn : g = a.ns := by omega
              subst hgn
              have hl2 : movesL a b = l2 := by rw [e2', e1]; rfl
              rw [hl2] at hRr
              refine W_mv (Mv.wk (fr1 := [(4, accV (k + 2) (l2.map Flt.row)), (5, .lit (.int .i64 0))]) (k1 := k + 3) (H1 := accH (k + 2) 3 (l2.map Flt.row) [(k + 1, ⟨7, true, [b.cells]⟩), (k, ⟨7, true, [a.cells]⟩)]) (wk_low (by omega) (by simp -dsimp -implicitDefEqProofs only [go_sem, List.map_append, List.map_cons, List.map_nil, Flt.row, eq_self, ↓reduceIte]) (by simp -dsimp -implicitDefEqProofs only [go_sem, List.map_append, List.map_cons, List.map_nil, Flt.row, eq_self, ↓reduceIte]) (by simp -dsimp -implicitDefEqProofs only [go_sem, List.map_append, List.map_cons, List.map_nil, Flt.row, eq_self, ↓reduceIte]) (by simp -dsimp -implicitDefEqProofs only [go_sem, List.map_append, List.map_cons, List.map_nil, Flt.row, eq_self, ↓reduceIte]))) ?_
              refine W_mv (Mv.frz_at (id := k + 2) (s := 3) (l := l2.map Flt.row) 4 (rows 3 (l2.map Flt.row)) [(k + 1, ⟨7, true, [b.cells]⟩), (k, ⟨7, true, [a.cells]⟩)] (by simp -dsimp -implicitDefEqProofs only [go_sem, List.map_append, List.map_cons, List.map_nil, Flt.row, eq_self, ↓reduceIte]) (by simp -dsimp -implicitDefEqProofs only [go_sem, List.map_append, List.map_cons, List.map_nil, Flt.row, eq_self, ↓reduceIte]) (VLe.refl _) (by simp -dsimp -implicitDefEqProofs only [go_sem, List.map_append, List.map_cons, List.map_nil, Flt.row, eq_self, ↓reduceIte]) (by simp -dsimp -implicitDefEqProofs only [go_sem, List.map_append, List.map_cons, List.map_nil, Flt.row, eq_self, ↓reduceIte])) ?_
              simp -dsimp -implicitDefEqProofs only [go_sem, eq_self, ↓reduceIte]
              refine C_ret rfl ⟨_, rfl, ?_⟩
              rw [hRr]
              exact VLe.refl _
        · rw [Bool.not_eq_true] at hal
          have hall : alB a b a.ng = false := by
            cases hx : alB a b a.ng with
            | false => rfl
            | true =>
              simp only [alB, decide_eq_true_eq, decide_eq_false_iff_not] at hal hx
              exact absurd ⟨hx.1, hx.2.1, hx.2.2.1, fun g hg => hx.2.2.2 g (by omega)⟩ hal
          rw [if_pos hall] at hRr
          (repeat' (first | (refine C_seq rfl ?_) | (refine C_block rfl ?_) | (refine C_skip rfl ?_; (try simp -dsimp -implicitDefEqProofs only [go_sem, hal, eq_self, ↓reduceIte])) | (refine C_exit rfl ?_; (try simp -dsimp -implicitDefEqProofs only [go_sem, hal, eq_self, ↓reduceIte])) | (refine C_cond rfl _ rfl (fun ht => ?_) (fun ht => ?_) <;> (try (simp only [nf] at ht)) <;> (try (exfalso; omega))) | ((first | (refine S_reg0 rfl [0,1,2,3,4,5,6,7,8,9,10,11,21,57,76,83,96,106,116,137] rfl rfl (fun K hK => ?_)) | (refine S_drw0 rfl [0,1,2,3,4,5,6,7,8,9,10,11,21,57,76,83,96,106,116,137] rfl (by kernel_rfl) rfl (fun K hK => ?_))); simp -dsimp -implicitDefEqProofs only [go_sem, hal, eq_self, ↓reduceIte]; (repeat' (first | (refine And.intro ?_ ?_) | (refine gs_both (fun hb => ?_) (fun hb => ?_) <;> (have hg := hb; (try simp only [nfb] at hg); simp -dsimp -implicitDefEqProofs only [go_sem, hal, hb, hg, eq_self, ↓reduceIte]; clear hb; (try simp only [nfe] at hg))))); any_goals ((first | (refine hK _ _ _ _ (fun hx => ?_)) | (refine hK _ _ _ _ (drawOk_names (fun i => i - k) (by simp only [List.map_cons, List.map_nil, shG, hal, ↓reduceIte, Nat.add_sub_cancel_left, Nat.sub_self]; rfl) (by decide +kernel) (by simp -dsimp -implicitDefEqProofs only [go_sem, hal, eq_self, ↓reduceIte])) (fun hx => ?_)) | (refine hK _ _ _ _ (drawOk_of (by kernel_rfl) (by simp -dsimp -implicitDefEqProofs only [go_sem, hal, eq_self, ↓reduceIte])) (fun hx => ?_))); clear hx hK; simp -dsimp -implicitDefEqProofs only [go_sem, hal, eq_self, ↓reduceIte]; (try simp (disch := omega) only [wrap_i64, wrap_u64, wrap_u32, wrap_u8]))) | omega))
          refine W_mv (Mv.frz_at (id := k + 2) (s := 3) (l := [Flt.row ⟨17, 0, 0⟩]) 4 (rows 3 [Flt.row ⟨17, 0, 0⟩]) [(k + 1, ⟨7, true, [b.cells]⟩), (k, ⟨7, true, [a.cells]⟩)] (by simp -dsimp -implicitDefEqProofs only [go_sem, List.map_append, List.map_cons, List.map_nil, Flt.row, eq_self, ↓reduceIte]) (by simp -dsimp -implicitDefEqProofs only [go_sem, List.map_append, List.map_cons, List.map_nil, Flt.row, eq_self, ↓reduceIte]) (VLe.refl _) (by simp -dsimp -implicitDefEqProofs only [go_sem, List.map_append, List.map_cons, List.map_nil, Flt.row, eq_self, ↓reduceIte]) (by simp -dsimp -implicitDefEqProofs only [go_sem, List.map_append, List.map_cons, List.map_nil, Flt.row, eq_self, ↓reduceIte])) ?_
          simp -dsimp -implicitDefEqProofs only [go_sem, eq_self, ↓reduceIte]
          refine C_ret rfl ⟨_, rfl, ?_⟩
          rw [hRr]
          exact VLe.refl _
  · have hbad : badP a b := .inl (by omega)
    (repeat' (first | (refine C_seq rfl ?_) | (refine C_block rfl ?_) | (refine C_skip rfl ?_; (try simp -dsimp -implicitDefEqProofs only [go_sem, eq_self, ↓reduceIte])) | (refine C_exit rfl ?_; (try simp -dsimp -implicitDefEqProofs only [go_sem, eq_self, ↓reduceIte])) | (refine C_cond rfl _ rfl (fun ht => ?_) (fun ht => ?_) <;> (try (simp only [nf] at ht)) <;> (try (exfalso; omega))) | ((first | (refine S_reg0 rfl [0,1,2,3,4,5,6,7,8,9,10,11,21,57,76,83,96,106,116,137] rfl rfl (fun K hK => ?_)) | (refine S_drw0 rfl [0,1,2,3,4,5,6,7,8,9,10,11,21,57,76,83,96,106,116,137] rfl (by kernel_rfl) rfl (fun K hK => ?_))); simp -dsimp -implicitDefEqProofs only [go_sem, eq_self, ↓reduceIte]; (repeat' (first | (refine And.intro ?_ ?_) | (refine gs_both (fun hb => ?_) (fun hb => ?_) <;> (have hg := hb; (try simp only [nfb] at hg); simp -dsimp -implicitDefEqProofs only [go_sem, hb, hg, eq_self, ↓reduceIte]; clear hb; (try simp only [nfe] at hg))))); any_goals ((first | (refine hK _ _ _ _ (fun hx => ?_)) | (refine hK _ _ _ _ (drawOk_names (fun i => i - k) (by simp only [List.map_cons, List.map_nil, shG, ↓reduceIte, Nat.add_sub_cancel_left, Nat.sub_self]; rfl) (by decide +kernel) (by simp -dsimp -implicitDefEqProofs only [go_sem, eq_self, ↓reduceIte])) (fun hx => ?_)) | (refine hK _ _ _ _ (drawOk_of (by kernel_rfl) (by simp -dsimp -implicitDefEqProofs only [go_sem, eq_self, ↓reduceIte])) (fun hx => ?_))); clear hx hK; simp -dsimp -implicitDefEqProofs only [go_sem, eq_self, ↓reduceIte]; (try simp (disch := omega) only [wrap_i64, wrap_u64, wrap_u32, wrap_u8]))) | omega))
    refine C_ret rfl ⟨_, rfl, ?_⟩
    rw [eR, eE, stepF2, stepE2, if_pos hbad, if_pos hbad]
    exact VLe.tups (.cons (VLe.nil _ _) (.cons (VLe.refl _) .nil))
end Go.Proofs.T
end
