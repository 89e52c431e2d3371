import Derived.Test.YteimiejbhhgljaaGreatDoorZAJ
import Derived.ChangeArms
import Derived.DataReads
import Derived.Carry
import Derived.ProofKit
import Derived.LaidMore
import Derived.OpenShut
import Derived.Stop.Joined
import Derived.Lib.LaidTab
import Derived.Maps.Keyed
import Derived.Maps.RangeRun
import Derived.Shelf.SortG.Plain
import Derived.Shelf.SortG.SortNone
import Derived.Ground.SlgnProg
import Derived.Test.YteimiejbhhgljaaGreatDoorProg
set_option linter.unusedVariables false
set_option linter.unusedSimpArgs false
section
namespace Go.AM
open Go
def Dec (w : World) (G : Nat → Prop) (vs : List AVal) (cs : List Value) : Prop :=
  vs.length = cs.length ∧ ∀ (j : Nat) (v : AVal), vs[j]? = some v → ∃ c, cs[j]? = some c ∧ V w G noNames noAllow v c
section
variable {H : Type} {enc : TypeId × Value → H} {P : Program} {w : World} {base : Nat} {sp : Nat → Bool} {held : Bool} {fuel : Nat} {t : TypeId} {cs : List Value} {x : DataW H × List MemPlace} {G : Nat → Prop}
theorem Dec.one {v : AVal} {c : Value} (h : V w G noNames noAllow v c) : Dec w G [v] [c] := ⟨rfl, fun j u hj => by
  match j with
  | 0 => cases hj; exact ⟨c, rfl, h⟩
  | j + 1 => simp at hj⟩
theorem Dec.app {a b : List AVal} {c d : List Value} (h : Dec w G a c) (k : Dec w G b d) : Dec w G (a ++ b) (c ++ d) := by
  refine ⟨by rw [List.length_append, List.length_append, h.1, k.1], fun j v hj => ?_⟩
  by_cases hlt : j < a.length
  · rw [List.getElem?_append_left hlt] at hj
    obtain ⟨e, he, hv⟩ := h.2 j v hj
    exact ⟨e, by rw [List.getElem?_append_left (by rw [← h.1]; exact hlt)]; exact he, hv⟩
  · rw [List.getElem?_append_right (by omega)] at hj
    obtain ⟨e, he, hv⟩ := k.2 _ v hj
    exact ⟨e, by rw [List.getElem?_append_right (by rw [← h.1]; omega), ← h.1]; exact he, hv⟩
theorem dec_int {k : IntKind} (ht : P.underlying t = some (.int k)) (h : DataW.trod enc P w base sp held fuel t cs = some x) : ∃ n, Dec w G [.lit (.int k n)] cs ∧ (Lit.int k n).wf = true := by
  obtain ⟨n, rfl, _, hw⟩ := DataW.trod_int ht h
  exact ⟨n, .one .lit, hw⟩
theorem dec_bool (ht : P.underlying t = some .bool) (h : DataW.trod enc P w base sp held fuel t cs = some x) : ∃ b, Dec w G [.lit (.bool b)] cs := by
  obtain ⟨b, rfl, _⟩ := DataW.trod_bool ht h
  exact ⟨b, .one .lit⟩
theorem add_add (a : Addr) (i j : Nat) (h : a.spot = none) : (a.add i).add j = ⟨a.block, a.off + i + j, none⟩ := by
  unfold Addr.add
  cases a
  simp only at h
  subst h
  by_cases hi : i = 0 <;> by_cases hj : j = 0 <;> simp [hi, hj]
theorem dec_slice {e : TypeId} {α : Type} (F : α → List AVal) (Q : α → Prop) (a0 : α) (h0 : Q a0) {sz : Nat} (hsz : 0 < sz) (ht : P.underlying t = some (.slice e)) (he : P.cellsOf e = sz)
    (hG : ∀ b, b < w.heap.size → G b)
    (hel : ∀ (n : Nat) (cs : List Value) (y : DataW H × List MemPlace), cs.length = sz → DataW.trod enc P w base sp held n e cs = some y → ∃ a, Q a ∧ Dec w G (F a) cs)
    (h : DataW.trod enc P w base sp held fuel t cs = some x) : ∃ (n : Nat) (f : Nat → α), (∀ i, Q (f i)) ∧ Dec w G [.rd sz n (fun i => F (f i))] cs := by
  rcases DataW.trod_slice ht h with ⟨rfl, _⟩ | ⟨a, len, cap, elems, rest, n, _, rfl, _, hb, hl, hm, hlen, hels, _, _⟩
  · exact ⟨0, fun _ => a0, fun _ => h0, .one .rd0⟩
  · by_cases hz : len = 0
    · subst hz; exact ⟨0, fun _ => a0, fun _ => h0, .one .rd0⟩
    · rw [he] at hels
      have each : ∀ i, i < len → ∃ ci y, w.cells? base (a.add (i * sz)) sz = some ci ∧ DataW.trod enc P w base sp held n e ci = some y := fun i hi => by
        have h1 := hels i hi
        rw [List.getElem?_eq_getElem (by omega), Option.bind_eq_some_iff] at h1
        obtain ⟨ci, h2, h3⟩ := h1
        exact ⟨ci, _, h2, h3⟩
      have each' : ∀ i, ∃ (ci : List Value) (q : α), Q q ∧ (i < len → w.cells? base (a.add (i * sz)) sz = some ci ∧ Dec w G (F q) ci) := fun i => by
        by_cases hi : i < len
        · obtain ⟨ci, y, h1, h2⟩ := each i hi
          obtain ⟨q, h3, h4⟩ := hel n ci y (World.cells?_some h1).2.1 h2
          exact ⟨ci, q, h3, fun _ => ⟨h1, h4⟩⟩
        · exact ⟨[], a0, h0, fun h => absurd h hi⟩
      let ci := fun i => Classical.choose (each' i)
      let f := fun i => Classical.choose (Classical.choose_spec (each' i))
      have hf : ∀ i, Q (f i) ∧ (i < len → w.cells? base (a.add (i * sz)) sz = some (ci i) ∧ Dec w G (F (f i)) (ci i)) := fun i => Classical.choose_spec (Classical.choose_spec (each' i))
      have hspot : a.spot = none := by
        have h1 := (World.cells?_some ((hf 0).2 (by omega)).1)
        have h2 := h1.2.2 0 hsz
        rw [Nat.zero_mul] at h2
        have h3 : a.add 0 = a := by simp [Addr.add]
        rw [h3, h3, List.getElem?_eq_getElem (by rw [h1.2.1]; exact hsz)] at h2
        unfold World.cell? at h2
        cases hs : a.spot with
        | none => rfl
        | some s => rw [hs] at h2; split at h2 <;> simp at h2
      have hcell : ∀ i j, i < len → j < sz → w.cell? ⟨a.block, a.off + i * sz + j, none⟩ = (ci i)[j]? := fun i j hi hj => by
        have h1 := (World.cells?_some ((hf i).2 hi).1).2.2 j hj
        rwa [add_add a _ _ hspot] at h1
      have hcl : ∀ i, i < len → (ci i).length = sz := fun i hi => (World.cells?_some ((hf i).2 hi).1).2.1
      have hFl : ∀ i, i < len → (F (f i)).length = sz := fun i hi => by rw [((hf i).2 hi).2.1, hcl i hi]
      have hblk : a.block < w.heap.size := by
        have h1 := hcell 0 0 (by omega) hsz
        rw [List.getElem?_eq_getElem (by rw [hcl 0 (by omega)]; exact hsz)] at h1
        by_cases hb : a.block < w.heap.size
        · exact hb
        · unfold World.cell? at h1
          simp only at h1
          rw [Array.getElem?_eq_none (by omega)] at h1; cases h1
      refine ⟨len, f, fun i => (hf i).1, .one ?_⟩
      have ea : a = ⟨a.block, a.off, none⟩ := by cases a; simp only at hspot; rw [hspot]
      rw [ea]
      refine .rd (fun i j => (ci i).getD j undef) (hG _ hblk) hl (by omega) hFl (fun i j v hi hj => ?_) (fun i j v hi hj => ?_)
      · obtain ⟨c, h1, h2⟩ := ((hf i).2 hi).2.2 j v hj
        have hj' : j < sz := by rw [← hcl i hi]; exact (List.getElem?_eq_some_iff.1 h1).1
        rw [hcell i j hi hj', h1]
        simp [List.getD_eq_getElem?_getD, h1]
      · obtain ⟨c, h1, h2⟩ := ((hf i).2 hi).2.2 j v hj
        simp only [List.getD_eq_getElem?_getD, h1, Option.getD_some]
        exact h2
theorem V.of_dec {vs : List AVal} {cs : Array Value} {ρ : Names} {A : Allow} (h : Dec w G vs cs.toList) : V w G ρ A (.agg vs) (.agg cs) := by
  have h1 : V w G noNames noAllow (.agg vs) (.agg cs) := .agg (by rw [h.1]; simp) fun j v hj => by
    obtain ⟨c, h2, h3⟩ := h.2 j v hj
    have : cs.getD j undef = c := by
      rw [Array.getElem?_toList] at h2
      simp [Array.getD_eq_getD_getElem?, h2]
    rw [this]; exact h3
  exact h1.mono (fun _ h => h) (fun _ _ => rfl) (fun _ _ => rfl) (fun _ h => h.elim) (fun _ h => h.elim)
end
end Go.AM
end
section
namespace Go.AM
open Go Go.RowKit
theorem keptBut_below {w w' : World} (h : Below w.heap.size w w') (may : MemPlace → Prop) : w.keptBut w' may := by
  refine ⟨h.os, h.output, fun i hi => ?_⟩
  rw [h.block i hi]
  cases w.heap[i]? with
  | none => rfl
  | some o => cases o <;> simp
end Go.AM
end
section
namespace Go.AM
open Go Go.RowKit
def GlobIs (w : World) (G : Nat → Prop) (g : Nat) (cells : List AVal) : Prop :=
  V w G noNames noAllow (.rp cells) (.pointer (some ⟨g, 0, none⟩)) ∧ G g ∧ ∃ C ty x, w.heap[g]? = some (.cells C ty x) ∧ C.size = cells.length
theorem Pure_calls {P : Program} {Γ : List (Nat × List AVal)} {f : FuncId} {vs : List AVal} {r : AVal} (hn : vs.all (bd fun _ => false) = true)
    (h : ∀ w G args, (∀ g cells, look Γ g = some cells → GlobIs w G g cells) → Vs w G noNames noAllow vs args →
      Calls P f args w fun e w' => ∃ cv, e = .returned cv ∧ Below w.heap.size w w' ∧ V w' (fun b => G b ∨ (w.heap.size ≤ b ∧ b < w'.heap.size)) noNames noAllow r cv) : Pure P Γ f vs r := fun k => by
  intro A hA w G ρ cargs hr hvs
  have hρ : ρ = noNames := funext fun id => hr.dom id rfl
  subst hρ
  have hv' : Vs w G noNames noAllow vs cargs := ⟨hvs.1, fun j u hj =>
    (V_bd (hvs.2 j u hj) (all_get hn hj)).mono (fun _ h => h) (fun _ _ => rfl) (fun _ _ => rfl) (fun i hi => by simp at hi) (fun _ _ => .inr rfl)⟩
  refine (h w G cargs hr.glob hv').mono ?_
  rintro e w' ⟨cv, rfl, hb, hv1⟩
  have hst : Step (below k) w G noNames w' (fun b => G b ∨ (w.heap.size ≤ b ∧ b < w'.heap.size)) noNames :=
    ⟨hb.size, fun b hlt _ => hb.block b hlt, fun b hlt => shp_of (hb.block b hlt), fun _ h => .inl h, fun b h => h.elim .inl (fun h => .inr (.inr h.1)), fun _ h => .inl h, fun _ _ => .inr rfl, hb.os, hb.tape, hb.output⟩
  exact ⟨cv, _, noNames, k, r, [], rfl, ⟨rfl, rfl, rfl⟩, Nat.le_refl _,
    ⟨fun _ _ => rfl, fun id B A' hid => by simp [ofHeap, look] at hid, hr.inj, fun b hb' => hb'.elim (fun h => Nat.lt_of_lt_of_le (hr.ro b h) hb.size) (fun h => h.2), glob_step hr hst⟩,
    hv1.mono (fun _ h => h) (fun _ _ => rfl) (fun _ _ => rfl) (fun _ h => h.elim) (fun _ _ => .inr rfl), hst⟩
theorem GlobIs.cell {w : World} {G : Nat → Prop} {g : Nat} {cells : List AVal} (h : GlobIs w G g cells) {j : Nat} {v : Value} (hj : cells[j]? = some (.lit v)) : w.cell? ⟨g, j, none⟩ = some v := by
  obtain ⟨hv, _⟩ := h
  cases hv with
  | rp gg hG hc hV =>
    have h1 := hc j _ hj
    have h2 := hV j _ hj
    rw [Nat.zero_add] at h1
    rw [h1]; cases h2; rfl
theorem GlobIs.tab {P : Program} {w : World} {G : Nat → Prop} {g : Nat} {name : String} {k : IntKind} {zs : List Int} (hg : P.globalNamed name = some g) (h : GlobIs w G g (zs.map fun z => .lit (.int k z))) : Lib.TabIs P w name k zs := by
  have hc := fun j (v : Value) => h.cell (j := j) (v := v)
  obtain ⟨_, _, C, ty, x, h3, h4⟩ := h
  unfold Lib.TabIs World.var?
  rw [hg, Option.bind_some, h3]
  refine congrArg some (Array.ext (by simpa using h4) fun i h1 h2 => ?_)
  have hi : i < zs.length := by simpa using h2
  have := hc i (.int k zs[i]) (by simp [hi])
  unfold World.cell? at this
  simp only [h3, Option.isSome_none, Bool.false_eq_true, if_false] at this
  rw [Array.getElem?_eq_getElem h1] at this
  simpa using this
theorem V_lit {w : World} {G : Nat → Prop} {ρ : Names} {A : Allow} {u cv : Value} (h : V w G ρ A (.lit u) cv) : cv = u := by cases h; rfl
theorem Vs_one {w : World} {G : Nat → Prop} {ρ : Names} {A : Allow} {u : Value} {cs : Array Value} (h : Vs w G ρ A [.lit u] cs) : cs = #[u] := by
  obtain ⟨h1, h2⟩ := h
  have e := V_lit (h2 0 _ rfl)
  have hs : cs.size = 1 := by simpa using h1.symm
  refine Array.ext (by simp [hs]) fun i hi hj => ?_
  have : i = 0 := by omega
  subst this
  rw [Array.getD_eq_getD_getElem?, Array.getElem?_eq_getElem hi] at e
  simpa using e
theorem Vs_two {w : World} {G : Nat → Prop} {ρ : Names} {A : Allow} {u v : Value} {cs : Array Value} (h : Vs w G ρ A [.lit u, .lit v] cs) : cs = #[u, v] := by
  obtain ⟨h1, h2⟩ := h
  have e := V_lit (h2 0 _ rfl)
  have e' := V_lit (h2 1 _ rfl)
  have hs : cs.size = 2 := by simpa using h1.symm
  refine Array.ext (by simp [hs]) fun i hi hj => ?_
  rw [Array.getD_eq_getD_getElem?] at e e'
  have : i = 0 ∨ i = 1 := by omega
  rcases this with rfl | rfl
  · rw [Array.getElem?_eq_getElem hi] at e; simpa using e
  · rw [Array.getElem?_eq_getElem hi] at e'; simpa using e'
end Go.AM
end
section
namespace Go.AM
open Go
section
variable {P : Program} {Γ : List (Nat × List AVal)}
theorem HRel.fz {w : World} {G : Nat → Prop} {ρ : Names} {H : Owner} {A : Allow} (hr : HRel Γ w G ρ H) : HRel Γ w (fun b => G b ∨ owned ρ b) noNames (ofHeap [] A) :=
  ⟨fun _ _ => rfl, fun id B A' hid => (by simp [ofHeap, look] at hid), fun i j b s t h => (by cases h), fun b hb => hb.elim (hr.ro b) (fun h => hr.owned_lt h), fun g cells hg => by
    obtain ⟨h1, h2, h3⟩ := hr.glob g cells hg
    exact ⟨h1.mono (fun _ h => .inl h) (fun _ _ => rfl) (fun _ _ => rfl) (fun _ h => h) (fun _ h => h.elim), .inl h2, h3⟩⟩
theorem Pure_at0 {f : FuncId} {fn : Func} {args : List AVal} {r : AVal} (hf : P.funcs[f]? = some fn) (hb : fn.body.isSome = true) (nt : Nat) (hnt : fn.ntmps = nt) (hn : args.length ≤ nt) (ha : args.all (bd fun _ => false) = true) (hr : bd (fun _ => false) r = true)
    (h : W P Γ nt 0 (cat (bodyOf fn) []) (retQ P fn (fun _ r1 _ => VLe r1 r)) 0 (argFr 0 args) []) : Pure P Γ f args r := fun k => by
  have hT := Tr_at hf hb nt hnt hn h
  intro A hA w G ρ cargs hr0 hvs
  have hρ : ρ = noNames := funext fun id => hr0.dom id rfl
  subst hρ
  have hno : ∀ w1 G1 ρ1 A1 A2 u cu, V w1 G1 ρ1 A1 u cu → bd (fun _ => false) u = true → V w1 G1 ρ1 A2 u cu := fun w1 G1 ρ1 A1 A2 u cu h hb =>
    (V_bd h hb).mono (fun _ h => h) (fun _ _ => rfl) (fun _ _ => rfl) (fun i hi => by simp at hi) (fun _ _ => .inr rfl)
  refine (hT noAllow (fun i hi => hi.elim) w G noNames cargs ⟨fun _ _ => rfl, fun id B A' hid => by simp [ofHeap, look] at hid, hr0.inj, hr0.ro, hr0.glob⟩ ⟨hvs.1, fun j u hj => hno _ _ _ _ _ _ _ (hvs.2 j u hj) (all_get ha hj)⟩).mono ?_
  rintro e w' ⟨cv, G', ρ', k1, r1, H1, rfl, hle, hk1, hrel1, hv1, hst⟩
  refine ⟨cv, fun b => G' b ∨ owned ρ' b, noNames, k, r, [], rfl, ⟨rfl, rfl, rfl⟩, Nat.le_refl _, hrel1.fz, ?_, ⟨hst.size, hst.keep, hst.shape, fun b hb => .inl (hst.g b hb), fun b hb => hb.elim (hst.g' b) (fun h => .inr (hst.own b h)), fun b ⟨_, _, h⟩ => (by cases h), fun id _ => .inl rfl, hst.os, hst.tape, hst.output⟩⟩
  exact (V_bd (hle _ _ _ _ _ hv1) hr).mono (fun _ h => .inl h) (fun _ _ => rfl) (fun _ _ => rfl) (fun i hi => by simp at hi) (fun i hi => by simp at hi)
end
end Go.AM
end
section
namespace Go.AM
open Go
section
variable {P : Program} {Γ : List (Nat × List AVal)} {o : Oper} {ev : Operand → Option AVal} {get : Nat → Option Blk} {k : Nat}
theorem slcNil_good {t ty e id r n c : Nat} {x y : Operand} {B : Blk} (ho : o.op = .binOp .eql t x y ty) (he : P.underlying t = some (.slice e)) (hx : ev x = some (.slc id r n c)) (hB : get id = some B) (hy : ev y = some (.lit (.slice none 0 0))) :
    Good P Γ o ev get k ⟨.lit (.bool false), k, [], [id]⟩ := by
  refine ⟨OpOk_quiet fun w G ρ H A a hr hrd hop => ⟨.bool false, ?_, .lit⟩, fun id' hid => by simp at hid; rw [hid, hB]; rfl, Nat.le_refl _⟩
  obtain ⟨B', A', h3, hH, _⟩ := hrd id (by simp)
  rw [hB] at h3; cases h3
  have hvx := hop x (by simp [ho, Op.operands]) _ hx
  have hvy := V_bool (hop y (by simp [ho, Op.operands]) _ hy)
  obtain ⟨b, off, C, ty', hev, _⟩ := slc_spec hr hH hvx
  obtain ⟨h1, _, h2, _⟩ := nilEq_sl (P := P) he ⟨b, off, none⟩ n c 0 0 w
  simp [execOp, ho, hev, hvy, h1, h2]
end
end Go.AM
end
section
namespace Go.AM
open Go
abbrev Ents := List (Int × Value × Nat)
def entV (q : IntKind) (e : Int × Value × Nat) : MapEntry := { key := .int q e.1, val := e.2.1, born := e.2.2 }
def entR (q : IntKind) (e : Int × Value × Nat) : List AVal := [.lit (.int q e.1), .lit e.2.1, .lit (.int .i64 e.2.2)]
def mapB (q : IntKind) (l : Ents) (clock : Nat) : Blk := ⟨3, true, [.lit (.int .i64 clock), .lit (.int .i64 l.length), .lit (.int .i64 1)] :: l.map (entR q)⟩
theorem flat3 {α : Type} {f : α → List Value} (hf : ∀ x, (f x).length = 3) : ∀ (l : List α) (r c : Nat), c < 3 → (l.flatMap f)[r * 3 + c]? = (l[r]?).bind fun x => (f x)[c]?
  | [], r, c, _ => by simp
  | x :: l, 0, c, h => by
    rw [List.flatMap_cons, Nat.zero_mul, Nat.zero_add, List.getElem?_append_left (by rw [hf]; exact h)]; rfl
  | x :: l, r + 1, c, h => by
    rw [List.flatMap_cons, List.getElem?_append_right (by rw [hf]; omega), hf]
    have e : (r + 1) * 3 + c - 3 = r * 3 + c := by omega
    rw [e, flat3 hf l r c h]; rfl
theorem mapL_at (es : List MapEntry) (clock r c : Nat) (h : c < 3) : (mapL es clock)[(r + 1) * 3 + c]? = (es[r]?).bind fun e => [e.key, e.val, Value.int .i64 e.born][c]? := by
  have e : (r + 1) * 3 + c = r * 3 + c + 1 + 1 + 1 := by omega
  rw [e]
  simp only [mapL, List.getElem?_cons_succ]
  exact flat3 (fun _ => rfl) es r c h
theorem map_at {w : World} {G : Nat → Prop} {ρ : Names} {A : Allow} {q : IntKind} {l : Ents} {clock b : Nat} (h : BRel w G ρ A (mapB q l clock) b) (hs : shp w b = some none) :
    ∃ es : Array MapEntry, w.heap[b]? = some (.map es clock) ∧ es.toList = l.map (entV q) := by
  obtain ⟨⟨C, o, ⟨hC, hO⟩, hrows⟩, hlen⟩ := h
  have lit : ∀ r row c v, (mapB q l clock).rows[r]? = some row → row[c]? = some (.lit v) → C[r * 3 + c]? = some v := fun r row c v h1 h2 => by
    obtain ⟨cv, h3, h4⟩ := hrows r row c _ h1 h2
    cases h4; exact h3
  have e0 := lit 0 _ 0 _ rfl rfl
  have e1 := lit 0 _ 1 _ rfl rfl
  have e2 := lit 0 _ 2 _ rfl rfl
  cases hO with
  | cells => simp [shp, hC] at hs
  | iter => simp [iterL] at e2
  | @map es clock' =>
    simp [mapL] at e0 e1
    have hclk : clock' = clock := by omega
    have hln : es.size = l.length := by omega
    subst hclk
    refine ⟨es, hC, List.ext_getElem? fun r => ?_⟩
    by_cases hr : r < l.length
    · have hrow : (mapB q l clock').rows[r + 1]? = some (entR q l[r]) := by
        simp [mapB, List.getElem?_eq_getElem hr]
      have a0 := lit (r + 1) _ 0 _ hrow rfl
      have a1 := lit (r + 1) _ 1 _ hrow rfl
      have a2 := lit (r + 1) _ 2 _ hrow rfl
      rw [List.getElem?_toArray, mapL_at _ _ _ _ (by omega)] at a0 a1 a2
      have hx : es.toList[r]? = some (es[r]'(by omega)) := by rw [Array.getElem?_toList, Array.getElem?_eq_getElem]
      rw [hx] at a0 a1 a2 ⊢
      rw [List.getElem?_map, List.getElem?_eq_getElem hr]
      simp at a0 a1 a2
      simp only [Option.map_some, entV]
      congr 1
      rw [← a0, ← a1]
      have : (es[r]'(by omega)).born = l[r].2.2 := by omega
      rw [← this]
    · rw [List.getElem?_eq_none (by simp; omega), List.getElem?_eq_none (by simp; omega)]
theorem map_rel {w : World} {G : Nat → Prop} {ρ : Names} {A : Allow} {q : IntKind} {l : Ents} {clock : Nat} {es : Array MapEntry} (he : es.toList = l.map (entV q)) :
    (∀ (r : Nat) row, (mapB q l clock).rows[r]? = some row → row.length = (mapB q l clock).sz) ∧
    ∀ r row c v, (mapB q l clock).rows[r]? = some row → row[c]? = some v → ∃ cv, (mapL es.toList clock).toArray[r * (mapB q l clock).sz + c]? = some cv ∧ V w G (if (mapB q l clock).pure then noNames else ρ) (if (mapB q l clock).pure then noAllow else A) v cv := by
  constructor
  · intro r row h
    cases r with
    | zero => cases h; rfl
    | succ r =>
      simp only [mapB, List.getElem?_cons_succ, List.getElem?_map, Option.map_eq_some_iff] at h
      obtain ⟨e, _, rfl⟩ := h
      rfl
  · intro r row c v h1 h2
    show ∃ cv, (mapL es.toList clock).toArray[r * 3 + c]? = some cv ∧ V w G noNames noAllow v cv
    rw [List.getElem?_toArray]
    cases r with
    | zero =>
      cases h1
      have hl : es.toList.length = l.length := by rw [he]; simp
      match c, h2 with
      | 0, h2 => cases h2; exact ⟨_, rfl, .lit⟩
      | 1, h2 => cases h2; exact ⟨_, by simp only [mapL, hl]; rfl, .lit⟩
      | 2, h2 => cases h2; exact ⟨_, rfl, .lit⟩
      | c + 3, h2 => simp at h2
    | succ r =>
      simp only [mapB, List.getElem?_cons_succ, List.getElem?_map, Option.map_eq_some_iff] at h1
      obtain ⟨e, h1, rfl⟩ := h1
      have hc : c < 3 := by
        have := (List.getElem?_eq_some_iff.1 h2).1
        simpa [entR] using this
      rw [mapL_at _ _ _ _ hc, he, List.getElem?_map, h1]
      match c, h2 with
      | 0, h2 => cases h2; exact ⟨_, rfl, .lit⟩
      | 1, h2 => cases h2; exact ⟨_, rfl, .lit⟩
      | 2, h2 => cases h2; exact ⟨_, rfl, .lit⟩
      | c + 3, h2 => omega
section
variable {P : Program} {Γ : List (Nat × List AVal)} {o : Oper} {ev : Operand → Option AVal} {get : Nat → Option Blk} {k : Nat}
theorem map_write {w w' : World} {G : Nat → Prop} {ρ : Names} {H : Owner} {A A' : Allow} {q : IntKind} {id b : Nat} {l l' : Ents} {clock clock' : Nat} {es es' : Array MapEntry}
    (hr : HRel Γ w G ρ H) (hH : H id = some (mapB q l clock, A')) (hAA : ∀ i, A' i → A i) (hb : ρ id = some (b, 3)) (hm : w.heap[b]? = some (.map es clock)) (he : es'.toList = l'.map (entV q))
    (hw : w'.heap = w.heap.setIfInBounds b (.map es' clock')) (h1 : w'.os = w.os) (h2 : w'.tape = w.tape) (h3 : w'.output = w.output) :
    HRel Γ w' G ρ (updO H (fun i => A i ∨ (k ≤ i ∧ i < k)) [(id, some (mapB q l' clock'))]) ∧ Step (fun i => ¬ (k ≤ i ∧ i < k)) w G ρ w' G ρ := by
  have hbl : b < w.heap.size := (Array.getElem?_eq_some_iff.1 hm).1
  have hnew : w'.heap[b]? = some (.map es' clock') := by rw [hw]; simp [hbl]
  have hoth : ∀ j, j ≠ b → w'.heap[j]? = w.heap[j]? := fun j hj => by rw [hw, Array.getElem?_setIfInBounds_ne (Ne.symm hj)]
  have hA := (hr.blk id _ A' hH).1
  have hrel := map_rel (w := w) (G := G) (ρ := ρ) (A := A) (clock := clock') he
  obtain ⟨g1, g2⟩ := hr.rewriteO (B := mapB q l clock) hb id (.inl rfl) (mapB q l' clock') rfl _ (.map es' clock') .map A (fun i => A i ∨ (k ≤ i ∧ i < k)) (.inl rfl) (fun _ h => .inl h) (.inl (hAA _ hA))
    w' hnew hoth (by rw [hw]; simp) (by simp [shp, hnew, hm]) h1 h2 h3 hrel.1 hrel.2
  have hnm : setN (setN ρ id none) id (some (b, 3)) = ρ := funext fun i => by
    simp only [setN]; split
    · rename_i he; rw [he, hb]
    · rfl
  rw [show (mapB q l clock).sz = 3 from rfl, hnm] at g1 g2
  have hup : updO H (fun i => A i ∨ (k ≤ i ∧ i < k)) [(id, some (mapB q l' clock')), (id, none)] = updO H (fun i => A i ∨ (k ≤ i ∧ i < k)) [(id, some (mapB q l' clock'))] := funext fun i => by
    simp only [updO]; split <;> simp_all
  rw [hup] at g1
  exact ⟨g1, ⟨g2.size, g2.keep, g2.shape, g2.g, g2.g', g2.own, fun i _ => g2.ids i (Or.inr rfl), g2.os, g2.tape, g2.output⟩⟩
def lit1 : AVal → Option Value
  | .lit v => some v
  | _ => none
def aggOf : AVal → Option Value
  | .lit v => some v
  | .agg cs => (cs.mapM lit1).map fun (l : List Value) => Value.agg l.toArray
  | _ => none
theorem aggOf_V {w : World} {G : Nat → Prop} {ρ : Names} {A : Allow} {v : AVal} {cv x : Value} (h : V w G ρ A v cv) (hl : aggOf v = some x) : cv = x := by
  cases h with
  | lit => simpa [aggOf] using hl
  | @agg _ _ cells cs h1 h2 =>
    simp only [aggOf, Option.map_eq_some_iff] at hl
    obtain ⟨l, hl, rfl⟩ := hl
    have hlen := Lib.mapM_length hl
    congr 1
    refine Array.ext (by simp; omega) fun i hi hi' => ?_
    have hic : i < cells.length := by omega
    obtain ⟨u, h3, h4⟩ := Lib.mapM_at hl i cells[i] (List.getElem?_eq_getElem hic)
    have h5 := h2 i _ (List.getElem?_eq_getElem hic)
    generalize cells[i] = c at h4 h5
    cases c with
    | lit y =>
      have hy : u = y := by simpa [lit1] using h4.symm
      subst hy
      have h6 : cs.getD i undef = u := by cases h5; rfl
      rw [Array.getD_eq_getD_getElem?, Array.getElem?_eq_getElem hi] at h6
      have h7 : l[i]? = some u := h3
      rw [List.getElem?_eq_getElem (by simpa using hi')] at h7
      simp at h6 h7
      simp [h6, h7]
    | _ => cases h4
  | _ => simp [aggOf] at hl
def findM (l : Ents) (n : Int) : Option Value := (l.find? fun e => e.1 == n).map (·.2.1)
def delM (l : Ents) (n : Int) : Ents := l.filter fun e => !(e.1 == n)
def UKeys (l : Ents) : Prop := (l.map (·.1)).Nodup
theorem findM_none {l : Ents} {n : Int} (h : ∀ e ∈ l, e.1 ≠ n) : findM l n = none := by
  unfold findM
  rw [List.find?_eq_none.2 (fun e he => by simpa using h e he)]; rfl
theorem findM_some {l : Ents} {n : Int} (hu : UKeys l) {j : Nat} {e : Int × Value × Nat} (hj : l[j]? = some e) (he : e.1 = n) : findM l n = some e.2.1 := by
  induction l generalizing j with
  | nil => simp at hj
  | cons a l ih =>
    simp only [UKeys, List.map_cons, List.nodup_cons] at hu
    cases j with
    | zero => cases hj; simp [findM, he]
    | succ j =>
      have h1 : l[j]? = some e := hj
      have h2 : a.1 ≠ n := fun h => hu.1 (h ▸ he ▸ List.mem_map.2 ⟨e, List.mem_of_getElem? h1, rfl⟩)
      have := ih hu.2 h1
      simpa [findM, h2] using this
theorem delM_none {l : Ents} {n : Int} (h : ∀ e ∈ l, e.1 ≠ n) : delM l n = l := List.filter_eq_self.2 fun e he => by simpa using h e he
theorem delM_some {l : Ents} {n : Int} (hu : UKeys l) {j : Nat} {e : Int × Value × Nat} (hj : l[j]? = some e) (he : e.1 = n) : delM l n = l.eraseIdx j := by
  induction l generalizing j with
  | nil => simp at hj
  | cons a l ih =>
    simp only [UKeys, List.map_cons, List.nodup_cons] at hu
    cases j with
    | zero =>
      cases hj
      have : delM l n = l := delM_none fun x hx h => hu.1 (he ▸ h ▸ List.mem_map.2 ⟨x, hx, rfl⟩)
      simpa [delM, he] using this
    | succ j =>
      have h1 : l[j]? = some e := hj
      have h2 : a.1 ≠ n := fun h => hu.1 (h ▸ he ▸ List.mem_map.2 ⟨e, List.mem_of_getElem? h1, rfl⟩)
      have := ih hu.2 h1
      simp only [delM] at this ⊢
      rw [List.filter_cons_of_pos (by simpa using h2), this]; rfl
theorem era_map {α β : Type} (f : α → β) : ∀ (l : List α) (j : Nat), (l.eraseIdx j).map f = (l.map f).eraseIdx j
  | [], j => by simp
  | a :: l, 0 => rfl
  | a :: l, j + 1 => by simp [era_map f l j]
structure MapT (P : Program) (t kt et : TypeId) (q : IntKind) (z : Value) : Prop where
  t : P.underlying t = some (.map kt et)
  k : P.underlying kt = some (.int q)
  z : (P.info? et).bind (·.zero) = some z
theorem MapT.zero {t kt et : TypeId} {q : IntKind} {z : Value} (h : MapT P t kt et q z) (w : World) : (zeroValue et).run P w = .ok z w := by
  have := h.z
  simp only [Option.bind_eq_some_iff] at this
  obtain ⟨i, h1, h2⟩ := this
  simp [zeroValue, typeInfo, h1, h2]
def wfK (q : IntKind) (n : Int) : Bool := (Lit.int q n).wf
theorem find_ents {kt : TypeId} {q : IntKind} (hk : P.underlying kt = some (.int q)) {l : Ents} (hl : ∀ e ∈ l, wfK q e.1 = true) {n : Int} (hn : wfK q n = true) (w : World) :
    ((Instr.findKey kt (.int q n) (l.map (entV q))).run P w = .ok none w ∧ ∀ e ∈ l, e.1 ≠ n) ∨
    ∃ j e, (Instr.findKey kt (.int q n) (l.map (entV q))).run P w = .ok (some (j, e.2.1)) w ∧ l[j]? = some e ∧ e.1 = n := by
  rcases (Maps.int_keyed hk).find w (Maps.keyOf_int_mk hk hn) (l.map (entV q)) (fun x hx => by
    obtain ⟨e, he, rfl⟩ := List.mem_map.1 hx
    exact ⟨_, Maps.keyOf_int_mk hk (hl e he)⟩) with ⟨h1, h2⟩ | ⟨j, x, h1, h2, h3⟩
  · refine .inl ⟨h1, fun e he hc => h2 _ (List.mem_map.2 ⟨e, he, rfl⟩) (by simp [entV, hc])⟩
  · rw [List.getElem?_map, Option.map_eq_some_iff] at h2
    obtain ⟨e, h4, rfl⟩ := h2
    exact .inr ⟨j, e, h1, h4, by simpa [entV] using h3⟩
theorem look_good {t kt et id : Nat} {q : IntKind} {z : Value} {m x : Operand} {n : Int} {l : Ents} {clock : Nat} (ho : o.op = .lookup t m x true) (ht : MapT P t kt et q z) (hm : ev m = some (.mp id)) (hx : ev x = some (.lit (.int q n)))
    (hB : get id = some (mapB q l clock)) (hl : ∀ e ∈ l, wfK q e.1 = true) (hn : wfK q n = true) (hu : UKeys l) : Good P Γ o ev get k ⟨.tup [.lit ((findM l n).getD z), .lit (.bool (findM l n).isSome)], k, [], [id]⟩ := by
  refine ⟨OpOk_quiet fun w G ρ H A a hr hrd hop => ?_, fun i hi => by simp at hi; rw [hi, hB]; rfl, Nat.le_refl _⟩
  have hvm := hop m (by simp [ho, Op.operands]) _ hm
  have hvx := V_lit (hop x (by simp [ho, Op.operands]) _ hx)
  obtain ⟨B', A', h2, hH, _⟩ := hrd id (by simp)
  rw [hB] at h2; cases h2
  obtain ⟨_, b, hb, _, hBR⟩ := hr.blk id _ A' hH
  generalize hev : a.eval m = cv at hvm
  cases hvm with
  | dangm _ hn' => rw [hb] at hn'; cases hn'
  | mp ha hρ hsh =>
    rw [hb] at hρ; cases hρ
    obtain ⟨es, hes, hel⟩ := map_at hBR hsh
    refine ⟨.tuple #[(findM l n).getD z, .bool (findM l n).isSome], ?_, .tup rfl fun j v hj => ?_⟩
    · rcases find_ents ht.k hl hn w with ⟨h3, h4⟩ | ⟨j, e, h3, h4, h5⟩
      · rw [findM_none h4]
        rw [← hel] at h3
        simp [execOp, ho, hev, hvx, Instr.lookup, run_underlying ht.t, MapKept.run_getObj_map hes, (Maps.int_keyed ht.k).check w _ (Maps.keyOf_int_mk ht.k hn), h3, ht.zero, Result.andThen]
      · rw [findM_some hu h4 h5]
        rw [← hel] at h3
        simp [execOp, ho, hev, hvx, Instr.lookup, run_underlying ht.t, MapKept.run_getObj_map hes, (Maps.int_keyed ht.k).check w _ (Maps.keyOf_int_mk ht.k hn), h3, Result.andThen]
    · match j, hj with
      | 0, hj => cases hj; exact .lit
      | 1, hj => cases hj; exact .lit
      | j + 2, hj => simp at hj
theorem put_good {t kt et id : Nat} {q : IntKind} {z : Value} {m x y : Operand} {n : Int} {l : Ents} {clock : Nat} {av : AVal} {v : Value} (ho : o.op = .mapUpdate t m x y) (ht : MapT P t kt et q z) (hm : ev m = some (.mp id))
    (hx : ev x = some (.lit (.int q n))) (hy : ev y = some av) (hv : aggOf av = some v) (hB : get id = some (mapB q l clock)) (hl : ∀ e ∈ l, wfK q e.1 = true) (hn : wfK q n = true) (hf : ∀ e ∈ l, e.1 ≠ n) :
    Good P Γ o ev get k ⟨.junk, k, [(id, some (mapB q (l ++ [(n, v, clock)]) (clock + 1)))], [id]⟩ := by
  refine ⟨fun w G ρ H A a hr hA hfr hrd hop next Q hN => ?_, fun i hi => by simp at hi; rw [hi, hB]; rfl, Nat.le_refl _⟩
  have hvm := hop m (by simp [ho, Op.operands]) _ hm
  have hvx := V_lit (hop x (by simp [ho, Op.operands]) _ hx)
  have hvy := aggOf_V (hop y (by simp [ho, Op.operands]) _ hy) hv
  obtain ⟨B', A', h2, hH, hAA⟩ := hrd id (by simp)
  rw [hB] at h2; cases h2
  obtain ⟨_, b, hb, _, hBR⟩ := hr.blk id _ A' hH
  generalize hev : a.eval m = cv at hvm
  cases hvm with
  | dangm _ hn' => rw [hb] at hn'; cases hn'
  | mp ha hρ hsh =>
    rw [hb] at hρ; cases hρ
    obtain ⟨es, hes, hel⟩ := map_at hBR hsh
    rcases find_ents ht.k hl hn w with ⟨h3, h4⟩ | ⟨j, e, h3, h4, h5⟩
    · rw [← hel] at h3
      have hrun : (execOp a.eval o).run P w = .ok .skip { w with heap := w.heap.setIfInBounds b (.map (es.push ⟨.int q n, v, clock⟩) (clock + 1)) } := by
        simp [execOp, ho, hev, hvx, hvy, Instr.mapUpdate, run_underlying ht.t, MapKept.run_getObj_map hes, (Maps.int_keyed ht.k).check w _ (Maps.keyOf_int_mk ht.k hn), h3, MapKept.run_setObj_map _ hes, Result.andThen]
      obtain ⟨g1, g2⟩ := map_write (k := k) (l' := l ++ [(n, v, clock)]) (clock' := clock + 1) (es' := es.push ⟨.int q n, v, clock⟩) (w' := { w with heap := w.heap.setIfInBounds b (.map (es.push ⟨.int q n, v, clock⟩) (clock + 1)) }) hr hH hAA hb hes (by simp [hel, entV]) rfl rfl rfl rfl
      unfold Oper.wp
      rw [hrun]
      exact hN _ G ρ undef g1 .junk g2
    · exact absurd h5 (hf e (List.mem_of_getElem? h4))
theorem del_good {t kt et id : Nat} {q : IntKind} {z : Value} {m x : Operand} {n : Int} {l : Ents} {clock : Nat} (ho : o.op = .call { callee := .builtin .delete, args := #[m, x], argTypes := #[t, kt] }) (ht : MapT P t kt et q z) (hm : ev m = some (.mp id))
    (hx : ev x = some (.lit (.int q n))) (hB : get id = some (mapB q l clock)) (hl : ∀ e ∈ l, wfK q e.1 = true) (hn : wfK q n = true) (hu : UKeys l) :
    Good P Γ o ev get k ⟨.lit (.tuple #[]), k, [(id, some (mapB q (delM l n) clock))], [id]⟩ := by
  refine ⟨fun w G ρ H A a hr hA hfr hrd hop next Q hN => ?_, fun i hi => by simp at hi; rw [hi, hB]; rfl, Nat.le_refl _⟩
  have hvm := hop m (by simp [ho, Op.operands, Call.operands]) _ hm
  have hvx := V_lit (hop x (by simp [ho, Op.operands, Call.operands]) _ hx)
  obtain ⟨B', A', h2, hH, hAA⟩ := hrd id (by simp)
  rw [hB] at h2; cases h2
  obtain ⟨_, b, hb, _, hBR⟩ := hr.blk id _ A' hH
  generalize hev : a.eval m = cv at hvm
  cases hvm with
  | dangm _ hn' => rw [hb] at hn'; cases hn'
  | mp ha hρ hsh =>
    rw [hb] at hρ; cases hρ
    obtain ⟨es, hes, hel⟩ := map_at hBR hsh
    have key : ∃ es' : Array MapEntry, es'.toList = (delM l n).map (entV q) ∧ (execOp a.eval o).run P w = .ok (.value (.tuple #[])) { w with heap := w.heap.setIfInBounds b (.map es' clock) } := by
      rcases find_ents ht.k hl hn w with ⟨h3, h4⟩ | ⟨j, e, h3, h4, h5⟩
      · rw [← hel] at h3
        refine ⟨es, by rw [delM_none h4, hel], ?_⟩
        simp [execOp, ho, resolve, invoke, builtin, hev, hvx, Builtin.delete_, run_underlying ht.t, MapKept.run_getObj_map hes, (Maps.int_keyed ht.k).check w _ (Maps.keyOf_int_mk ht.k hn), h3, MapKept.run_setObj_map _ hes, Result.andThen]
      · rw [← hel] at h3
        have hjl : j < es.size := by
          have h6 := (List.getElem?_eq_some_iff.1 h4).1
          have h7 : es.toList.length = l.length := by rw [hel]; simp
          simp at h7; omega
        refine ⟨es.eraseIdxIfInBounds j, ?_, ?_⟩
        · unfold Array.eraseIdxIfInBounds
          rw [dif_pos hjl, delM_some hu h4 h5]
          simp only [hel, Array.toList_eraseIdx]; exact (era_map _ _ _).symm
        · simp [execOp, ho, resolve, invoke, builtin, hev, hvx, Builtin.delete_, run_underlying ht.t, MapKept.run_getObj_map hes, (Maps.int_keyed ht.k).check w _ (Maps.keyOf_int_mk ht.k hn), h3, MapKept.run_setObj_map _ hes, Result.andThen]
    obtain ⟨es', he', hrun⟩ := key
    obtain ⟨g1, g2⟩ := map_write (k := k) (l' := delM l n) (clock' := clock) (es' := es') (w' := { w with heap := w.heap.setIfInBounds b (.map es' clock) }) hr hH hAA hb hes he' rfl rfl rfl rfl
    unfold Oper.wp
    rw [hrun]
    exact hN _ G ρ _ g1 .lit g2
theorem makeM_good {t : Nat} (q : IntKind) (ho : o.op = .makeMap t none) : Good P Γ o ev get k ⟨.mp k, k + 1, [(k, some (mapB q [] 0))], []⟩ := by
  refine ⟨fun w G ρ H A a hr hA hfr hrd hop next Q hN => ?_, fun i hi => by simp at hi, Nat.le_succ _⟩
  obtain ⟨hρ, hf⟩ := hfr k (Nat.le_refl _) (Nat.lt_succ_self _)
  have hkA : ¬ A k := fun hk => Nat.lt_irrefl _ (hA k hk)
  have hrun : (execOp a.eval o).run P w = .ok (.value (.map (some w.heap.size))) (w.alloc (.map #[] 0)) := by
    have hmm : (Instr.makeMap t none).run P w = .ok (.map (some w.heap.size)) (w.alloc (.map #[] 0)) := rfl
    simp [execOp, ho, hmm]
  have hrows := map_rel (w := w) (G := G) (ρ := ρ) (A := A) (q := q) (l := []) (clock := 0) (es := #[]) rfl
  have hrel := hr.allocO k hρ hf (mapB q [] 0) _ (.map #[] 0) .map A (fun i => A i ∨ (k ≤ i ∧ i < k + 1)) hkA (fun _ h => .inl h) (.inr ⟨Nat.le_refl _, Nat.lt_succ_self _⟩) hrows.1 hrows.2 w rfl rfl rfl rfl
  have hst := step_alloc (w := w) (G := G) (ρ := ρ) k 3 (.map #[] 0) w rfl rfl rfl rfl
  unfold Oper.wp
  rw [hrun]
  refine hN _ G _ _ hrel (.mp (b := w.heap.size) (s := 3) (.inr ⟨Nat.le_refl _, Nat.lt_succ_self _⟩) (by simp [setN]; rfl) ?_) ⟨hst.size, hst.keep, hst.shape, hst.g, hst.g', hst.own, fun i hi => hst.ids i (fun he => hi (show k ≤ i ∧ i < k + 1 by omega)), hst.os, hst.tape, hst.output⟩
  show shp (w.alloc (.map #[] 0)) w.heap.size = some none
  have h9 := heap_push_new w (.map #[] 0)
  unfold shp
  rw [h9]; rfl
end
end Go.AM
end
section
namespace Go.AM
open Go
def iterB (mid since : Nat) (seen : List Nat) (c0 : Nat) : Blk :=
  ⟨3, false, [.lit (.int .i64 c0), .lit (.int .i64 seen.length), .lit (.int .i64 2)] :: [.mp mid, .lit (.int .i64 since), .lit (.int .i64 0)] :: seen.map fun (x : Nat) => [.lit (.int .i64 (x : Int)), .lit (.int .i64 0), .lit (.int .i64 0)]⟩
theorem iterL_at (m : Option Nat) (since : Nat) (seen : Array Nat) (c0 r c : Nat) (h : c < 3) : (iterL m since seen c0)[(r + 2) * 3 + c]? = (seen.toList[r]?).bind fun (x : Nat) => [Value.int .i64 (x : Int), .int .i64 0, .int .i64 0][c]? := by
  have e : (r + 2) * 3 + c = r * 3 + c + 1 + 1 + 1 + 1 + 1 + 1 := by omega
  rw [e]
  simp only [iterL, List.getElem?_cons_succ]
  exact flat3 (fun _ => rfl) _ r c h
theorem iter_at {w : World} {G : Nat → Prop} {ρ : Names} {A : Allow} {mid since c0 b bm s : Nat} {seen : List Nat} (h : BRel w G ρ A (iterB mid since seen c0) b) (hs : shp w b = some none) (hm : ρ mid = some (bm, s)) :
    w.heap[b]? = some (.mapIter (some bm) since seen.toArray c0) ∧ shp w bm = some none := by
  obtain ⟨⟨C, o, ⟨hC, hO⟩, hrows⟩, hlen⟩ := h
  have lit : ∀ r row c v, (iterB mid since seen c0).rows[r]? = some row → row[c]? = some (.lit v) → C[r * 3 + c]? = some v := fun r row c v h1 h2 => by
    obtain ⟨cv, h3, h4⟩ := hrows r row c _ h1 h2
    cases h4; exact h3
  have e0 := lit 0 _ 0 _ rfl rfl
  have e1 := lit 0 _ 1 _ rfl rfl
  have e2 := lit 0 _ 2 _ rfl rfl
  have e4 := lit 1 _ 1 _ rfl rfl
  obtain ⟨cm, hcm, hvm⟩ := hrows 1 _ 0 _ rfl rfl
  cases hO with
  | cells => simp [shp, hC] at hs
  | map => simp [mapL] at e2
  | @iter m since' seen' c0' =>
    have hcm2 : (iterL m since' seen' c0').toArray[3]? = some cm := hcm
    simp [iterL] at e0 e1 e4 hcm2
    have hvm' : V w G ρ A (.mp mid) cm := by simpa [iterB] using hvm
    subst hcm2
    have hc0 : c0' = c0 := by omega
    have hsi : since' = since := by omega
    have hln : seen'.size = seen.length := by omega
    subst hc0; subst hsi
    have hseen : seen' = seen.toArray := by
      refine Array.ext' (List.ext_getElem? fun r => ?_)
      by_cases hr : r < seen.length
      · have hrow : (iterB mid since' seen c0').rows[r + 2]? = some [.lit (.int .i64 ((seen[r] : Nat) : Int)), .lit (.int .i64 0), .lit (.int .i64 0)] := by
          simp [iterB, List.getElem?_eq_getElem hr]
        have a0 := lit (r + 2) _ 0 _ hrow rfl
        rw [List.getElem?_toArray, iterL_at _ _ _ _ _ _ (by omega)] at a0
        have hx : seen'.toList[r]? = some (seen'[r]'(by omega)) := by rw [Array.getElem?_toList, Array.getElem?_eq_getElem]
        rw [hx] at a0 ⊢
        simp at a0
        have : seen'[r]'(by omega) = seen[r] := by omega
        rw [this, List.getElem?_eq_getElem hr]
      · rw [List.getElem?_eq_none (by simp; omega), List.getElem?_eq_none (by simp; omega)]
    subst hseen
    cases hvm' with
    | dangm _ hn => rw [hm] at hn; cases hn
    | mp _ hρ hsm => rw [hm] at hρ; cases hρ; exact ⟨hC, hsm⟩
theorem iter_rel {w : World} {G : Nat → Prop} {ρ : Names} {A : Allow} {mid since c0 bm : Nat} {seen : List Nat} (hm : V w G ρ A (.mp mid) (.map (some bm))) :
    (∀ (r : Nat) row, (iterB mid since seen c0).rows[r]? = some row → row.length = (iterB mid since seen c0).sz) ∧
    ∀ r row c v, (iterB mid since seen c0).rows[r]? = some row → row[c]? = some v → ∃ cv, (iterL (some bm) since seen.toArray c0).toArray[r * (iterB mid since seen c0).sz + c]? = some cv ∧
      V w G (if (iterB mid since seen c0).pure then noNames else ρ) (if (iterB mid since seen c0).pure then noAllow else A) v cv := by
  constructor
  · intro r row h
    match r, h with
    | 0, h => cases h; rfl
    | 1, h => cases h; rfl
    | r + 2, h =>
      simp only [iterB, List.getElem?_cons_succ, List.getElem?_map, Option.map_eq_some_iff] at h
      obtain ⟨e, _, rfl⟩ := h
      rfl
  · intro r row c v h1 h2
    show ∃ cv, (iterL (some bm) since seen.toArray c0).toArray[r * 3 + c]? = some cv ∧ V w G ρ A v cv
    rw [List.getElem?_toArray]
    match r, h1 with
    | 0, h1 =>
      cases h1
      match c, h2 with
      | 0, h2 => cases h2; exact ⟨_, rfl, .lit⟩
      | 1, h2 => cases h2; exact ⟨_, by simp only [iterL, List.size_toArray]; rfl, .lit⟩
      | 2, h2 => cases h2; exact ⟨_, rfl, .lit⟩
      | c + 3, h2 => simp at h2
    | 1, h1 =>
      cases h1
      match c, h2 with
      | 0, h2 => cases h2; exact ⟨_, rfl, hm⟩
      | 1, h2 => cases h2; exact ⟨_, rfl, .lit⟩
      | 2, h2 => cases h2; exact ⟨_, rfl, .lit⟩
      | c + 3, h2 => simp at h2
    | r + 2, h1 =>
      have h4 : (seen.map fun (x : Nat) => [AVal.lit (.int .i64 (x : Int)), .lit (.int .i64 0), .lit (.int .i64 0)])[r]? = some row := h1
      rw [List.getElem?_map, Option.map_eq_some_iff] at h4
      obtain ⟨e, h5, rfl⟩ := h4
      have hc : c < 3 := by
        have := (List.getElem?_eq_some_iff.1 h2).1
        simpa using this
      rw [iterL_at _ _ _ _ _ _ hc]
      have h3 : seen.toArray.toList[r]? = some e := h5
      rw [h3]
      match c, h2 with
      | 0, h2 => cases h2; exact ⟨_, rfl, .lit⟩
      | 1, h2 => cases h2; exact ⟨_, rfl, .lit⟩
      | 2, h2 => cases h2; exact ⟨_, rfl, .lit⟩
      | c + 3, h2 => omega
section
variable {P : Program} {Γ : List (Nat × List AVal)} {o : Oper} {ev : Operand → Option AVal} {get : Nat → Option Blk} {k nt kb : Nat}
theorem range_good {t kt et mid : Nat} {q : IntKind} {z : Value} {m : Operand} {l : Ents} {clock : Nat} (ho : o.op = .range t m) (ht : MapT P t kt et q z) (hm : ev m = some (.mp mid)) (hB : get mid = some (mapB q l clock)) :
    Good P Γ o ev get k ⟨.it k, k + 1, [(k, some (iterB mid clock [] clock))], [mid]⟩ := by
  refine ⟨fun w G ρ H A a hr hA hfr hrd hop next Q hN => ?_, fun i hi => by simp at hi; rw [hi, hB]; rfl, Nat.le_succ _⟩
  obtain ⟨hρk, hf⟩ := hfr k (Nat.le_refl _) (Nat.lt_succ_self _)
  have hkA : ¬ A k := fun hk => Nat.lt_irrefl _ (hA k hk)
  have hvm := hop m (by simp [ho, Op.operands]) _ hm
  obtain ⟨B', A', h2, hH, hAA⟩ := hrd mid (by simp)
  rw [hB] at h2; cases h2
  obtain ⟨_, b, hb, _, hBR⟩ := hr.blk mid _ A' hH
  generalize hev : a.eval m = cv at hvm
  have hvm0 := hvm
  cases hvm with
  | dangm _ hn' => rw [hb] at hn'; cases hn'
  | mp ha hρ hsh =>
    rw [hb] at hρ; cases hρ
    obtain ⟨es, hes, hel⟩ := map_at hBR hsh
    have hrun : (execOp a.eval o).run P w = .ok (.value (.pointer (some ⟨w.heap.size, 0, none⟩))) (w.alloc (.mapIter (some b) clock #[] clock)) := by
      have := run_range_map w t kt et b es clock ht.t hes
      simp [execOp, ho, hev, this]
    have hrows := iter_rel (since := clock) (c0 := clock) (seen := []) hvm0
    have hrel := hr.allocO k hρk hf (iterB mid clock [] clock) _ (.mapIter (some b) clock #[] clock) .iter A (fun i => A i ∨ (k ≤ i ∧ i < k + 1)) hkA (fun _ h => .inl h) (.inr ⟨Nat.le_refl _, Nat.lt_succ_self _⟩) hrows.1 hrows.2 w rfl rfl rfl rfl
    have hst := step_alloc (w := w) (G := G) (ρ := ρ) k 3 (.mapIter (some b) clock #[] clock) w rfl rfl rfl rfl
    unfold Oper.wp
    rw [hrun]
    refine hN _ G _ _ hrel (.it (b := w.heap.size) (s := 3) (.inr ⟨Nat.le_refl _, Nat.lt_succ_self _⟩) (by simp [setN]; rfl) ?_) ⟨hst.size, hst.keep, hst.shape, hst.g, hst.g', hst.own, fun i hi => hst.ids i (fun he => hi (show k ≤ i ∧ i < k + 1 by omega)), hst.os, hst.tape, hst.output⟩
    show shp (w.alloc (.mapIter (some b) clock #[] clock)) w.heap.size = some none
    have h9 := heap_push_new w (.mapIter (some b) clock #[] clock)
    unfold shp
    rw [h9]; rfl
structure GoodN (P : Program) (Γ : List (Nat × List AVal)) (o : Oper) (ev : Operand → Option AVal) (get : Nat → Option Blk) (k : Nat) (rds : List Nat) (outs : Out → Prop) : Prop where
  ok : ∀ w G ρ H (A : Allow) (a : Act), HRel Γ w G ρ H → (∀ i, A i → i < k) → (∀ id, id ∈ rds → ∃ B A', get id = some B ∧ H id = some (B, A') ∧ ∀ i, A' i → A i) →
    (∀ x, x ∈ o.op.operands → ∀ v, ev x = some v → V w G ρ A v (a.eval x)) → ∀ (next : Act → World → Prop) (Q : Exit → Act → World → Prop),
      (∀ out, outs out → ∀ w' G' ρ' cv, HRel Γ w' G' ρ' (updO H (fun i => A i ∨ (k ≤ i ∧ i < k)) out.upd) → V w' G' ρ' (fun i => A i ∨ (k ≤ i ∧ i < k)) out.v cv →
        Step (fun i => ¬ (k ≤ i ∧ i < k)) w G ρ w' G' ρ' → next (a.put o.dst cv) w') → o.wp P a w next Q
  rds : ∀ id, id ∈ rds → (get id).isSome = true
  k : ∀ out, outs out → out.k = k
theorem W_regionN {fr : Fr} {H : Heap} {Q : AQ} {id : Nat} {ops : Array Oper} {r : List Oper} (hops : ops.toList = o :: r) (hd : dstOk nt ops = true) (hgd : o.guard = none) {rds : List Nat} {outs : Out → Prop}
    (hN : GoodN P Γ o (aeval Γ fr) (look H) k rds outs) (h : ∀ out, outs out → Run P Γ ops r k (putO fr o.dst out.v) (updH H out.upd) (fun _ k' fr' H' => kb ≤ k' → Q .normal k' fr' H')) : W P Γ nt kb (.region id ops false) Q k fr H := fun A0 hA0 hk w G ρ a hi => by
  refine wp_region ?_
  have hlen : ops.size = r.length + 1 := by rw [← Array.length_toList, hops]; rfl
  have ho : ops[0]? = some o := by rw [← Array.getElem?_toList, hops]; rfl
  have hdst := dstOk_spec hd ho
  have hlt := alw_lt (A0 := A0) hA0 hk
  rw [List.range_eq_range', hlen, List.range'_succ, wpOps_cons]
  unfold wpOp
  rw [ho]
  have hw : Region.wanted o (yielded ops a.tmps) = true := by unfold Region.wanted; rw [hgd]
  simp only [hw, if_true]
  left
  have hHof : ∀ id B A', ofHeap H (alw A0 kb k) id = some (B, A') → A' = alw A0 kb k := fun id B A' hH => by
    simp only [ofHeap, Option.map_eq_some_iff] at hH
    obtain ⟨B', _, he⟩ := hH
    cases he; rfl
  refine hN.ok w G ρ (ofHeap H (alw A0 kb k)) (alw A0 kb k) a hi.rel hlt (fun id hid => ?_) (fun x _ v hv => aeval_V hi hv) _ (Post Γ nt A0 kb w G ρ Q) (fun out hout w' G' ρ' cv hrel hv hst => ?_)
  · obtain ⟨B, hB⟩ := Option.isSome_iff_exists.1 (hN.rds id hid)
    exact ⟨B, alw A0 kb k, hB, by simp only [ofHeap, hB, Option.map_some], fun _ h => h⟩
  · have hst' : Step (below kb) w G ρ w' G' ρ' := ⟨hst.size, hst.keep, hst.shape, hst.g, hst.g', hst.own, fun j hj => hst.ids j (fun hc => by simp only [below] at hj; omega), hst.os, hst.tape, hst.output⟩
    rw [alw_or A0 kb k k hk (Nat.le_refl _)] at hrel hv
    refine run_wpOps (kb := kb) (Q' := Post Γ nt A0 kb w G ρ Q) hd hA0 r 1 (fun j => by rw [← Array.getElem?_toList, hops, Nat.add_comm]; rfl) k _ _ _ hk (h out hout) w' G' ρ' (a.put o.dst cv)
      ⟨?_, by rw [put_size]; exact hi.size, by rw [put_defers]; exact hi.defers, fun t v hv' => ?_⟩ hst' (fun tr k' fr' H' G' ρ' a' w' hK hk' hi' hs' => ⟨G', ρ', k', fr', H', hK hk', hk', hi', hs'⟩)
    · refine hrel.allow _ (fun id hid => ?_) (fun id B A' hid => ?_)
      · simp only [ofHeap, Option.map_eq_none_iff] at hid
        rw [look_updH] at hid
        rw [updO_modOf]
        split at hid
        · rename_i x hx; rw [hid]; rfl
        · rename_i hx; simp only [ofHeap, hid, Option.map_none]
      · simp only [ofHeap, Option.map_eq_some_iff] at hid
        obtain ⟨B', hB', he⟩ := hid
        cases he
        rw [look_updH] at hB'
        rw [updO_modOf]
        split at hB'
        · rename_i x hx; rw [hB']; exact ⟨alw A0 kb k, rfl, fun _ h => h⟩
        · rename_i hx; exact ⟨alw A0 kb k, by simp only [ofHeap, hB', Option.map_some], fun _ h => h⟩
    · rw [look_putO] at hv'
      rw [put_getD a o.dst cv t (fun x hx => by rw [hi.size]; exact hdst x hx)]
      split at hv'
      · rename_i he; cases hv'; rw [if_pos he]; exact hv
      · rename_i hne; rw [if_neg hne]
        exact (hi.frm t v hv').step hi.rel hst (fun j hj hc => by have := hlt j hj; omega) (fun _ h => h)
def toCome (l : Ents) (seen : List Nat) : Ents := l.filter fun e => !seen.contains e.2.2
theorem next_good {mid it since c0 clock : Nat} {q : IntKind} {x : Operand} {l : Ents} {seen : List Nat} (ho : o.op = .next x false) (hx : ev x = some (.it it)) (hI : get it = some (iterB mid since seen c0)) (hB : get mid = some (mapB q l clock))
    (hold : ∀ e ∈ l, e.2.2 < since) (hsc : since ≤ c0) :
    GoodN P Γ o ev get k [it, mid] (fun out => (toCome l seen = [] ∧ out = ⟨.tup [.lit (.bool false)], k, [], [it, mid]⟩) ∨
      ∃ e, e ∈ toCome l seen ∧ out = ⟨.tup [.lit (.bool true), .lit (.int q e.1), .lit e.2.1], k, [(it, some (iterB mid since (seen ++ [e.2.2]) clock))], [it, mid]⟩) := by
  refine ⟨fun w G ρ H A a hr hA hrd hop next Q hN => ?_, fun i hi => by
    simp at hi
    rcases hi with rfl | rfl
    · rw [hI]; rfl
    · rw [hB]; rfl, fun out h => by rcases h with ⟨_, rfl⟩ | ⟨_, _, rfl⟩ <;> rfl⟩
  have hvx := hop x (by simp [ho, Op.operands]) _ hx
  obtain ⟨B1, A1, h2, hH1, hAA1⟩ := hrd it (by simp)
  rw [hI] at h2; cases h2
  obtain ⟨B2, A2, h2, hH2, hAA2⟩ := hrd mid (by simp)
  rw [hB] at h2; cases h2
  obtain ⟨hA1, b, hb, _, hBR1⟩ := hr.blk it _ A1 hH1
  obtain ⟨hA2, bm, hbm, _, hBR2⟩ := hr.blk mid _ A2 hH2
  generalize hev : a.eval x = cv at hvx
  cases hvx with
  | dangi _ hn' => rw [hb] at hn'; cases hn'
  | it ha hρ hsh =>
    rw [hb] at hρ; cases hρ
    obtain ⟨hit, hshm⟩ := iter_at hBR1 hsh hbm
    obtain ⟨es, hes, hel⟩ := map_at hBR2 hshm
    have hne : b ≠ bm := fun h => by rw [h, hes] at hit; cases hit
    have hmem : ∀ y, y ∈ es.toList ↔ ∃ e ∈ l, entV q e = y := fun y => by rw [hel]; simp
    have hfil : (leftOf es seen.toArray).toList = (toCome l seen).map (entV q) := by
      unfold leftOf toCome
      rw [Array.toList_filter, hel, List.filter_map]
      congr 1
      apply List.filter_congr
      intro e _
      simp [entV, Function.comp]
    have hupd0 : updO H (fun i => A i ∨ (k ≤ i ∧ i < k)) [] = H := rfl
    have hAk : ∀ i, A i → (A i ∨ (k ≤ i ∧ i < k)) := fun _ h => .inl h
    rcases run_next_at (P := P) w o.type b bm since c0 seen.toArray es clock hit hes (fun y hy => by obtain ⟨e, he, rfl⟩ := (hmem y).1 hy; exact hold e he) hsc with ⟨h0, hrun⟩ | ⟨e', he', w1, hal, hrun⟩
    · have hnil : toCome l seen = [] := by
        have h3 : (leftOf es seen.toArray).toList.length = 0 := by simpa using h0
        rw [hfil, List.length_map] at h3
        exact List.length_eq_zero_iff.1 h3
      unfold Oper.wp
      have hrun' : (execOp a.eval o).run P w = .ok (.value (.tuple #[.bool false])) w := by simp [execOp, ho, hev, hrun]
      rw [hrun']
      refine hN _ (.inl ⟨hnil, rfl⟩) w G ρ _ ?_ (.tup rfl fun j v hj => ?_) (Step.refl _ _ _ _)
      · exact hr
      · match j, hj with
        | 0, hj => cases hj; exact .lit
        | j + 1, hj => simp at hj
    · rw [hfil] at he'
      obtain ⟨e, he, rfl⟩ := List.mem_map.1 he'
      have hw1 : w1.heap = w.heap ∧ w1.os = w.os ∧ w1.tape = w.tape ∧ w1.output = w.output := by rcases hal with rfl | rfl <;> exact ⟨rfl, rfl, rfl, rfl⟩
      unfold Oper.wp
      have hrun' : (execOp a.eval o).run P w = .ok (.value (.tuple #[.bool true, (entV q e).key, (entV q e).val])) (ChangeMaps.setBlock w1 b (.mapIter (some bm) since (seen.toArray.push (entV q e).born) clock)) := by simp [execOp, ho, hev, hrun]
      rw [hrun']
      have hbl : b < w.heap.size := (Array.getElem?_eq_some_iff.1 hit).1
      have hheap : (ChangeMaps.setBlock w1 b (.mapIter (some bm) since (seen.toArray.push (entV q e).born) clock)).heap = w.heap.setIfInBounds b (.mapIter (some bm) since (seen.toArray.push (entV q e).born) clock) := by
        simp [ChangeMaps.setBlock, hw1.1]
      generalize hw' : ChangeMaps.setBlock w1 b (.mapIter (some bm) since (seen.toArray.push (entV q e).born) clock) = w' at hheap
      have hos : w'.os = w.os ∧ w'.tape = w.tape ∧ w'.output = w.output := by rw [← hw']; exact hw1.2
      have hnew : w'.heap[b]? = some (.mapIter (some bm) since (seen ++ [e.2.2]).toArray clock) := by
        rw [hheap]; simp [hbl, entV]
      have hoth : ∀ j, j ≠ b → w'.heap[j]? = w.heap[j]? := fun j hj => by rw [hheap, Array.getElem?_setIfInBounds_ne (Ne.symm hj)]
      have hvm : V w G ρ A (.mp mid) (.map (some bm)) := .mp (hAA2 _ hA2) hbm hshm
      have hrows := iter_rel (since := since) (c0 := clock) (seen := seen ++ [e.2.2]) hvm
      obtain ⟨g1, g2⟩ := hr.rewriteO (B := iterB mid since seen c0) hb it (.inl rfl) (iterB mid since (seen ++ [e.2.2]) clock) rfl _ (.mapIter (some bm) since (seen ++ [e.2.2]).toArray clock) .iter A (fun i => A i ∨ (k ≤ i ∧ i < k)) (.inl rfl) hAk (.inl (hAA1 _ hA1))
        w' hnew hoth (by rw [hheap]; simp) (by simp [shp, hnew, hit]) hos.1 hos.2.1 hos.2.2 hrows.1 hrows.2
      have hnm : setN (setN ρ it none) it (some (b, 3)) = ρ := funext fun i => by
        simp only [setN]; split
        · rename_i h9; rw [h9, hb]; rfl
        · rfl
      rw [show (iterB mid since seen c0).sz = 3 from rfl, hnm] at g1 g2
      have hup : updO H (fun i => A i ∨ (k ≤ i ∧ i < k)) [(it, some (iterB mid since (seen ++ [e.2.2]) clock)), (it, none)] = updO H (fun i => A i ∨ (k ≤ i ∧ i < k)) [(it, some (iterB mid since (seen ++ [e.2.2]) clock))] := funext fun i => by
        simp only [updO]; split <;> simp_all
      rw [hup] at g1
      refine hN _ (.inr ⟨e, he, rfl⟩) w' G ρ _ g1 (.tup rfl fun j v hj => ?_) ⟨g2.size, g2.keep, g2.shape, g2.g, g2.g', g2.own, fun i _ => g2.ids i (Or.inr rfl), g2.os, g2.tape, g2.output⟩
      match j, hj with
      | 0, hj => cases hj; exact .lit
      | 1, hj => cases hj; exact .lit
      | 2, hj => cases hj; exact .lit
      | j + 3, hj => simp at hj
theorem entry_good {mid it since clock : Nat} {q : IntKind} {x : Operand} {l : Ents} {seen : List Nat} {e : Int × Value × Nat} (ho : o.op = .entry x) (hx : ev x = some (.it it)) (hI : get it = some (iterB mid since (seen ++ [e.2.2]) clock))
    (hB : get mid = some (mapB q l clock)) (he : e ∈ l) (hn : (l.map (·.2.2)).Nodup) : Good P Γ o ev get k ⟨.tup [.lit (.int q e.1), .lit e.2.1], k, [], [it, mid]⟩ := by
  refine ⟨OpOk_quiet fun w G ρ H A a hr hrd hop => ?_, fun i hi => by
    simp at hi
    rcases hi with rfl | rfl
    · rw [hI]; rfl
    · rw [hB]; rfl, Nat.le_refl _⟩
  have hvx := hop x (by simp [ho, Op.operands]) _ hx
  obtain ⟨B1, A1, h2, hH1, _⟩ := hrd it (by simp)
  rw [hI] at h2; cases h2
  obtain ⟨B2, A2, h2, hH2, _⟩ := hrd mid (by simp)
  rw [hB] at h2; cases h2
  obtain ⟨_, b, hb, _, hBR1⟩ := hr.blk it _ A1 hH1
  obtain ⟨_, bm, hbm, _, hBR2⟩ := hr.blk mid _ A2 hH2
  generalize hev : a.eval x = cv at hvx
  cases hvx with
  | dangi _ hn' => rw [hb] at hn'; cases hn'
  | it ha hρ hsh =>
    rw [hb] at hρ; cases hρ
    obtain ⟨hit, hshm⟩ := iter_at hBR1 hsh hbm
    obtain ⟨es, hes, hel⟩ := map_at hBR2 hshm
    have hrun := run_entry_at (P := P) w b bm since seen.toArray es clock (entV q e) (by rw [hit]; simp [entV]) hes (by rw [hel]; exact List.mem_map.2 ⟨e, he, rfl⟩) (by rw [hel, List.map_map]; exact hn)
    refine ⟨.tuple #[.int q e.1, e.2.1], by simp [execOp, ho, hev, hrun, entV], .tup rfl fun j v hj => ?_⟩
    match j, hj with
    | 0, hj => cases hj; exact .lit
    | 1, hj => cases hj; exact .lit
    | j + 2, hj => simp at hj
end
end Go.AM
end
section
namespace Go.Proofs.T
open Go Go.AM Go.Proofs
set_option maxRecDepth 20000
variable {Γ : List (Nat × List AVal)}
structure DelR where
  (n0 n1 n2 n3 n4 n5 : Nat)
  (f0 f1 f2 f3 f4 f5 : Nat → List AVal)
def DelR.cells (d : DelR) : List AVal := [.rd 2 d.n0 d.f0, .rd 2 d.n1 d.f1, .rd 2 d.n2 d.f2, .rd 1 d.n3 d.f3, .rd 8 d.n4 d.f4, .rd 5 d.n5 d.f5]
def DelR.size (d : DelR) : Nat := d.n0 + d.n1 + d.n2 + d.n3 + d.n4 + d.n5
attribute [go_sem] DelR.cells
theorem dsize (d : DelR) (h : d.size < 9223372036854775808) : AM.Pure Tryz.prog Γ 26 [.agg d.cells] (.lit (.int .i64 (d.size : Int))) := by
  have h' : d.n0 + d.n1 + d.n2 + d.n3 + d.n4 + d.n5 < 9223372036854775808 := h
  refine Pure_at Tryz.func26 rfl 26 rfl (Nat.le_of_ble_eq_true rfl) rfl fun k => ?_
  have kp : Kp [0,1,2] (fun i => i - k) := kpI
  refine wl ?_ <;> and_intros <;> first | exact hdT | (apply zM; (repeat intro ht); apply zM; (repeat intro hg); apply zM)
  have uU := Go.AM.uU; refine cR ?_; apply zN
  have e : (d.n0 + d.n1 + d.n2 + d.n3 + d.n4 + d.n5 : Int) = (d.size : Int) := by unfold DelR.size; omega
  rw [e]
  exact VLe.refl _
end Go.Proofs.T
end
section
namespace Go.Proofs.T
open Go Go.AM Go.Proofs
set_option maxRecDepth 20000
variable {Γ : List (Nat × List AVal)}
theorem dclo0 (k D id : Nat) (hD : D < k) (hid : id < k) (hne : D ≠ id) (l : List (List AVal)) (hl : l.length ≤ 100000) (c1 c2 c3 c4 c5 : AVal) (i x : Int)
    (e1 : bd0 (ltB (k + 2)) c1 = true) (e2 : bd0 (ltB (k + 2)) c2 = true) (e3 : bd0 (ltB (k + 2)) c3 = true) (e4 : bd0 (ltB (k + 2)) c4 = true) (e5 : bd0 (ltB (k + 2)) c5 = true) :
    Tr Tryz.prog Γ 54 k [.lit (.int .i64 i), .lit (.int .i64 x), .ptr D 0 0] (accH id 2 l [(D, ⟨6, false, [[accV id l, c1, c2, c3, c4, c5]]⟩)]) (fun k1 r1 H1 => k1 = k + 2 ∧ r1 = .tup [] ∧ H1 = [(k + 1, ⟨2, true, l ++ [[.lit (.int .i64 i), .lit (.int .i64 x)]]⟩), (D, ⟨6, false, [[.sl (k + 1) 0 (l.length + 1), c1, c2, c3, c4, c5]]⟩)]) := by
  obtain ⟨a1, a2, a3, a4, a5, a6⟩ := old_name hD
  obtain ⟨b1, b2, b3, b4, b5, b6⟩ := old_name hid
  obtain ⟨d1, d2⟩ := two_names hne
  refine Tr_at Tryz.func54 rfl 13 rfl (Nat.le_of_ble_eq_true rfl) (W_upM ?_)
  have kp : Kp [0,1,2] (fun i => if i = D then 0 else if i = id then 1 else i - k + 2) := kpI
  have uU := zA @a1 (zA @a2 (zA @a3 (zA @a4 (zA @a5 (zA @a6 (zA @b1 (zA @b2 (zA @b3 (zA @b4 (zA @b5 (zA @b6 (zA @d1 (zA @d2 (zA @e1 (zA @e2 (zA @e3 (zA @e4 @e5)))))))))))))))))
  refine wl ?_ <;> and_intros <;> first | exact hdT | (apply zM; (repeat intro ht); apply zM; (repeat intro hg); apply zM)
  refine ⟨k + 2, [], _, ?_, _, rfl, rfl, rfl, rfl⟩
  (have uU := zA @a1 (zA @a2 (zA @a3 (zA @a4 (zA @a5 (zA @a6 (zA @b1 (zA @b2 (zA @b3 (zA @b4 (zA @b5 (zA @b6 (zA @d1 (zA @d2 (zA @e1 (zA @e2 (zA @e3 (zA @e4 @e5))))))))))))))))); exact wkU)
theorem dclo1 (k D id : Nat) (hD : D < k) (hid : id < k) (hne : D ≠ id) (l : List (List AVal)) (hl : l.length ≤ 100000) (c1 c2 c3 c4 c5 : AVal) (i x : Int)
    (e1 : bd0 (ltB (k + 2)) c1 = true) (e2 : bd0 (ltB (k + 2)) c2 = true) (e3 : bd0 (ltB (k + 2)) c3 = true) (e4 : bd0 (ltB (k + 2)) c4 = true) (e5 : bd0 (ltB (k + 2)) c5 = true) :
    Tr Tryz.prog Γ 55 k [.lit (.int .i64 i), .lit (.int .i64 x), .ptr D 0 0] (accH id 2 l [(D, ⟨6, false, [[c1, accV id l, c2, c3, c4, c5]]⟩)]) (fun k1 r1 H1 => k1 = k + 2 ∧ r1 = .tup [] ∧ H1 = [(k + 1, ⟨2, true, l ++ [[.lit (.int .i64 i), .lit (.int .i64 x)]]⟩), (D, ⟨6, false, [[c1, .sl (k + 1) 0 (l.length + 1), c2, c3, c4, c5]]⟩)]) := by
  obtain ⟨a1, a2, a3, a4, a5, a6⟩ := old_name hD
  obtain ⟨b1, b2, b3, b4, b5, b6⟩ := old_name hid
  obtain ⟨d1, d2⟩ := two_names hne
  refine Tr_at Tryz.func55 rfl 13 rfl (Nat.le_of_ble_eq_true rfl) (W_upM ?_)
  have kp : Kp [0,1,2] (fun i => if i = D then 0 else if i = id then 1 else i - k + 2) := kpI
  have uU := zA @a1 (zA @a2 (zA @a3 (zA @a4 (zA @a5 (zA @a6 (zA @b1 (zA @b2 (zA @b3 (zA @b4 (zA @b5 (zA @b6 (zA @d1 (zA @d2 (zA @e1 (zA @e2 (zA @e3 (zA @e4 @e5)))))))))))))))))
  refine wl ?_ <;> and_intros <;> first | exact hdT | (apply zM; (repeat intro ht); apply zM; (repeat intro hg); apply zM)
  refine ⟨k + 2, [], _, ?_, _, rfl, rfl, rfl, rfl⟩
  (have uU := zA @a1 (zA @a2 (zA @a3 (zA @a4 (zA @a5 (zA @a6 (zA @b1 (zA @b2 (zA @b3 (zA @b4 (zA @b5 (zA @b6 (zA @d1 (zA @d2 (zA @e1 (zA @e2 (zA @e3 (zA @e4 @e5))))))))))))))))); exact wkU)
theorem dclo2 (k D id : Nat) (hD : D < k) (hid : id < k) (hne : D ≠ id) (l : List (List AVal)) (hl : l.length ≤ 100000) (c1 c2 c3 c4 c5 : AVal) (i p x : Int)
    (e1 : bd0 (ltB (k + 3)) c1 = true) (e2 : bd0 (ltB (k + 3)) c2 = true) (e3 : bd0 (ltB (k + 3)) c3 = true) (e4 : bd0 (ltB (k + 3)) c4 = true) (e5 : bd0 (ltB (k + 3)) c5 = true) :
    Tr Tryz.prog Γ 57 k [.lit (.int .i64 i), .agg [.lit (.int .i64 p), .lit (.int .i64 x)], .ptr D 0 0] (accH id 2 l [(D, ⟨6, false, [[c1, c2, accV id l, c3, c4, c5]]⟩)]) (fun k1 r1 H1 => k1 = k + 3 ∧ r1 = .tup [] ∧ H1 = [(k + 2, ⟨2, true, l ++ [[.lit (.int .i64 i), .lit (.int .i64 x)]]⟩), (D, ⟨6, false, [[c1, c2, .sl (k + 2) 0 (l.length + 1), c3, c4, c5]]⟩)]) := by
  obtain ⟨a1, a2, a3, a4, a5, a6⟩ := old_name hD
  obtain ⟨b1, b2, b3, b4, b5, b6⟩ := old_name hid
  obtain ⟨d1, d2⟩ := two_names hne
  refine Tr_at Tryz.func57 rfl 14 rfl (Nat.le_of_ble_eq_true rfl) (W_upM ?_)
  have kp : Kp [0,1,2,4] (fun i => if i = D then 0 else if i = id then 1 else i - k + 2) := kpI
  have uU := zA @a1 (zA @a2 (zA @a3 (zA @a4 (zA @a5 (zA @a6 (zA @b1 (zA @b2 (zA @b3 (zA @b4 (zA @b5 (zA @b6 (zA @d1 (zA @d2 (zA @e1 (zA @e2 (zA @e3 (zA @e4 @e5)))))))))))))))))
  refine wl ?_ <;> and_intros <;> first | exact hdT | (apply zM; (repeat intro ht); apply zM; (repeat intro hg); apply zM)
  refine ⟨k + 3, [], _, ?_, _, rfl, rfl, rfl, rfl⟩
  (have uU := zA @a1 (zA @a2 (zA @a3 (zA @a4 (zA @a5 (zA @a6 (zA @b1 (zA @b2 (zA @b3 (zA @b4 (zA @b5 (zA @b6 (zA @d1 (zA @d2 (zA @e1 (zA @e2 (zA @e3 (zA @e4 @e5))))))))))))))))); exact wkU)
end Go.Proofs.T
end
section
namespace Go.Proofs.T
open Go Go.AM Go.Proofs
set_option maxRecDepth 20000
variable {Γ : List (Nat × List AVal)}
theorem dclo3 (k D E id : Nat) (hD : D < k) (hid : id < k) (hne : D ≠ id) (hE : E < k) (hDE : D ≠ E) (hEi : E ≠ id) (l : List (List AVal)) (hl : l.length ≤ 100000) (c1 c2 c3 c4 c5 : AVal) (g i v r f : Int)
    (e1 : bd0 (ltB (k + 3)) c1 = true) (e2 : bd0 (ltB (k + 3)) c2 = true) (e3 : bd0 (ltB (k + 3)) c3 = true) (e4 : bd0 (ltB (k + 3)) c4 = true) (e5 : bd0 (ltB (k + 3)) c5 = true) :
    Tr Tryz.prog Γ 60 k [.lit (.int .i64 i), .agg [.lit (.int .u64 v), .lit (.int .u32 r), .lit (.int .u64 f)], .ptr D 0 0, .ptr E 0 0] (accH id 5 l [(D, ⟨6, false, [[c1, c2, c3, c4, c5, accV id l]]⟩), (E, ⟨1, true, [[.lit (.int .i64 g)]]⟩)]) (fun k1 r1 H1 => k1 = k + 3 ∧ r1 = .tup [] ∧ H1 = [(k + 2, ⟨5, true, l ++ [[.lit (.int .i64 g), .lit (.int .i64 i), .lit (.int .u64 v), .lit (.int .u32 r), .lit (.int .u64 f)]]⟩), (D, ⟨6, false, [[c1, c2, c3, c4, c5, .sl (k + 2) 0 (l.length + 1)]]⟩), (E, ⟨1, true, [[.lit (.int .i64 g)]]⟩)]) := by
  obtain ⟨a1, a2, a3, a4, a5, a6⟩ := old_name hD
  obtain ⟨b1, b2, b3, b4, b5, b6⟩ := old_name hid
  obtain ⟨d1, d2⟩ := two_names hne
  obtain ⟨g1, g2, g3, g4, g5, g6⟩ := old_name hE
  obtain ⟨d3, d4⟩ := two_names hDE
  obtain ⟨d5, d6⟩ := two_names hEi
  refine Tr_at Tryz.func60 rfl 15 rfl (Nat.le_of_ble_eq_true rfl) (W_upM ?_)
  have kp : Kp [0,1,2,3,5] (fun i => if i = D then 0 else if i = id then 1 else if i = E then 2 else i - k + 3) := kpI
  have uU := zA @a1 (zA @a2 (zA @a3 (zA @a4 (zA @a5 (zA @a6 (zA @b1 (zA @b2 (zA @b3 (zA @b4 (zA @b5 (zA @b6 (zA @d1 (zA @d2 (zA @g1 (zA @g2 (zA @g3 (zA @g4 (zA @g5 (zA @g6 (zA @d3 (zA @d4 (zA @d5 (zA @d6 (zA @e1 (zA @e2 (zA @e3 (zA @e4 @e5)))))))))))))))))))))))))))
  refine wl ?_ <;> and_intros <;> first | exact hdT | (apply zM; (repeat intro ht); apply zM; (repeat intro hg); apply zM)
  refine ⟨k + 3, [], _, ?_, _, rfl, rfl, rfl, rfl⟩
  (have uU := zA @a1 (zA @a2 (zA @a3 (zA @a4 (zA @a5 (zA @a6 (zA @b1 (zA @b2 (zA @b3 (zA @b4 (zA @b5 (zA @b6 (zA @d1 (zA @d2 (zA @g1 (zA @g2 (zA @g3 (zA @g4 (zA @g5 (zA @g6 (zA @d3 (zA @d4 (zA @d5 (zA @d6 (zA @e1 (zA @e2 (zA @e3 (zA @e4 @e5))))))))))))))))))))))))))); exact wkU)
end Go.Proofs.T
end
section
namespace Go.Proofs.T
open Go Go.AM Go.Proofs
set_option maxRecDepth 20000
variable {Γ : List (Nat × List AVal)}
def flx {α : Type} (f : Nat → List α) : Nat → List α
  | 0 => []
  | n + 1 => flx f n ++ f n
theorem flx_zero {α : Type} {f : Nat → List α} : flx f 0 = [] := rfl
theorem flx_succ {α : Type} {f : Nat → List α} {n : Nat} : flx f (n + 1) = flx f n ++ f n := rfl
theorem flx_len {α : Type} {f : Nat → List α} {m : Nat} (h : ∀ i, (f i).length ≤ m) : ∀ n, (flx f n).length ≤ n * m
  | 0 => by simp [flx]
  | n + 1 => by have := flx_len h n; have := h n; simp only [flx, List.length_append, Nat.add_mul, Nat.one_mul]; omega
theorem flx_congr {α : Type} {f g : Nat → List α} : ∀ {n : Nat}, (∀ i, i < n → f i = g i) → flx f n = flx g n
  | 0, _ => rfl
  | n + 1, h => by rw [flx, flx, flx_congr (fun i hi => h i (by omega)), h n (by omega)]
def if1 {α : Type} (b : Bool) (x : α) : List α := if b = true then [x] else []
theorem if1_len {α : Type} (b : Bool) (x : α) : (if1 b x).length ≤ 1 := by unfold if1; split <;> simp
structure Dl where
  ck : List (Int × Int)
  cu : List (Int × Int)
  wg : List (Int × Int)
  gn : List Int
  tk : List Tk
  sp : List (Int × Int × Sp)
def vlR (x : Int × Int) : List AVal := [.lit (.int .i64 x.1), .lit (.int .i64 x.2)]
def nR (n : Int) : List AVal := [.lit (.int .i64 n)]
def tR (t : Tk) : List AVal := [.lit (.int .i64 t.id), .lit (.int .i64 t.group), .lit (.int .i64 t.weight), .lit (.int .i64 t.cpu), .lit (.int .u64 t.mask), .lit (.bool t.ready), .lit (.int .u64 t.v), .lit (.int .u32 t.r)]
def pR (x : Int × Int × Sp) : List AVal := [.lit (.int .i64 x.1), .lit (.int .i64 x.2.1), .lit (.int .u64 x.2.2.v), .lit (.int .u32 x.2.2.r), .lit (.int .u64 x.2.2.floor)]
def Dl.cells (d : Dl) : List AVal := [rows 2 (d.ck.map vlR), rows 2 (d.cu.map vlR), rows 2 (d.wg.map vlR), rows 1 (d.gn.map nR), rows 8 (d.tk.map tR), rows 5 (d.sp.map pR)]
def difN (a b : Nat → Int) (i : Nat) : List (Int × Int) := if1 (b i != a i) ((i : Int), b i)
def difG (a b : St) (i : Nat) : List (Int × Int) := if1 (decide (¬ (a.par i = b.par i ∧ a.wt i = b.wt i))) ((i : Int), b.wt i)
def spNe (x y : Sp) : Bool := decide (¬ (x.v = y.v ∧ x.r = y.r ∧ x.floor = y.floor))
def difS (a b : St) (g i : Nat) : List (Int × Int × Sp) := if1 (spNe (a.sp g i) (b.sp g i)) ((g : Int), (i : Int), b.sp g i)
end Go.Proofs.T
end
section
namespace Go.Proofs.T
open Go Go.AM Go.Proofs
set_option maxRecDepth 20000
variable {Γ : List (Nat × List AVal)}
theorem vlR_mk (a b : Int) : vlR (a, b) = [.lit (.int .i64 a), .lit (.int .i64 b)] := rfl
theorem pR_mk (a b : Int) (s : Sp) : pR (a, b, s) = [.lit (.int .i64 a), .lit (.int .i64 b), .lit (.int .u64 s.v), .lit (.int .u32 s.r), .lit (.int .u64 s.floor)] := rfl
attribute [go_sem] vlR_mk pR_mk
theorem sw0_off {c : AVal} (h : ∀ p, bd0 p c = true) (a b : Nat) : sw0 a b c = c := by
  have := h fun _ => false
  cases c <;> first | rfl | (simp [bd0] at this; done) | (simp [bd0] at this; subst this; rfl)
theorem difN_len (a b : Nat → Int) (i : Nat) : (difN a b i).length ≤ 1 := if1_len _ _
theorem difG_len (a b : St) (i : Nat) : (difG a b i).length ≤ 1 := if1_len _ _
theorem difS_len (a b : St) (g i : Nat) : (difS a b g i).length ≤ 1 := if1_len _ _
set_option maxHeartbeats 1000000 in
theorem differ0 (k D : Nat) (hD : D < k) (a b : Nat → Int) (n : Nat) (hn : n ≤ 1000) (c1 c2 c3 c4 c5 : AVal) (e1 : ∀ p, bd0 p c1 = true) (e2 : ∀ p, bd0 p c2 = true) (e3 : ∀ p, bd0 p c3 = true) (e4 : ∀ p, bd0 p c4 = true) (e5 : ∀ p, bd0 p c5 = true) :
    Tr Tryz.prog Γ 53 k [.rd 1 n (fun i => [.lit (.int .i64 (a i))]), .rd 1 n (fun i => [.lit (.int .i64 (b i))]), .fn 54 [.ptr D 0 0]] ([(D, ⟨6, false, [[.lit (.slice none 0 0), c1, c2, c3, c4, c5]]⟩)]) (fun k1 r1 H1 => k1 = k + 1 ∧ r1 = .tup [] ∧ H1 = accH k 2 ((flx (difN a b) n).map vlR) [(D, ⟨6, false, [[accV k ((flx (difN a b) n).map vlR), c1, c2, c3, c4, c5]]⟩)]) := by
  obtain ⟨a1, a2, a3, a4, a5, a6⟩ := old_name hD
  obtain ⟨s1, s2, s3, s4, s5⟩ := And.intro (sw0_off e1) (And.intro (sw0_off e2) (And.intro (sw0_off e3) (And.intro (sw0_off e4) (sw0_off e5))))
  refine Tr_at Tryz.func53 rfl 26 rfl (Nat.le_of_ble_eq_true rfl) (W_upM ?_)
  have kp : Kp [0,1,2,6,7,8,9,10,11,20] (fun i => if i = D then 0 else i - k + 1) := kpI
  have uU := zA @a1 (zA @a2 (zA @a3 (zA @a4 (zA @a5 (zA @a6 (zA @e1 (zA @e2 (zA @e3 (zA @e4 (zA @e5 (zA @s1 (zA @s2 (zA @s3 (zA @s4 @s5))))))))))))))
  refine wl ?_ <;> and_intros <;> first | exact hdT | (apply zM; (repeat intro ht); apply zM; (repeat intro hg); apply zM)
  refine M_forO (X := Nat) rfl [0,1,2,6,7,8,9,10,11,20] (k + 1) (fun i => [(10, .lit (.int .i64 (i : Int)))]) (fun i => accH k 2 ((flx (difN a b) i).map vlR) [(D, ⟨6, false, [[accV k ((flx (difN a b) i).map vlR), c1, c2, c3, c4, c5]]⟩)]) (fun i => i ≤ n) (fun i => n - i) 0 ?_ (Nat.zero_le _) ?_
  · rw [flx_zero, List.map_nil]
    refine rR ?_ <;> first | exact hdT | apply zN
    (have uU := zA @a1 (zA @a2 (zA @a3 (zA @a4 (zA @a5 (zA @a6 (zA @e1 (zA @e2 (zA @e3 (zA @e4 (zA @e5 (zA @s1 (zA @s2 (zA @s3 (zA @s4 @s5)))))))))))))); exact wkU)
  intro i hi
  have hfl := flx_len (difN_len a b) i
  obtain ⟨l, el, hl⟩ : ∃ x, x = ((flx (difN a b) i).map vlR) ∧ x.length ≤ i := ⟨_, rfl, by simp; omega⟩
  have es : ((flx (difN a b) (i + 1)).map vlR) = l ++ (difN a b i).map vlR := by rw [flx_succ, List.map_append, ← el]
  rw [← el]
  refine rR ?_ <;> first | exact hdT | apply zN
  refine wl ?_ <;> and_intros <;> first | exact hdT | (apply zM; (repeat intro ht); apply zM; (repeat intro hg); apply zM)
  · refine cl [.gen (.tup []) (k + 3) (accH k 2 l [(D, ⟨6, false, [[accV k l, c1, c2, c3, c4, c5]]⟩)]) [(k + 2, ⟨2, true, l ++ [[.lit (.int .i64 (i : Int)), .lit (.int .i64 (b i))]]⟩), (D, ⟨6, false, [[.sl (k + 2) 0 (l.length + 1), c1, c2, c3, c4, c5]]⟩)]] ?_ <;> and_intros <;> first | exact hdT | (apply zM; (repeat intro ht); apply zM; (repeat intro hg); apply zM)
    · exact dclo0 (k + 1) D k (by omega) (by omega) (by omega) l (by omega) c1 c2 c3 c4 c5 (i : Int) (b i) (e1 _) (e2 _) (e3 _) (e4 _) (e5 _)
    refine wl ?_ <;> and_intros <;> first | exact hdT | (apply zM; (repeat intro ht); apply zM; (repeat intro hg); apply zM)
    refine ⟨i + 1, by omega, by omega, ?_⟩
    rw [es, show difN a b i = [_] from by rw [difN, if1, if_pos (by first | (simp; omega) | (simp [spNe] at ht ⊢; omega))], List.map_cons, List.map_nil]
    refine rR ?_ <;> first | exact hdT | apply zN
    exact Mv.app (k + 2) (k) ⟨by omega, by omega⟩ ⟨by omega, by omega⟩ (wk_low (by omega) (by simp -dsimp -implicitDefEqProofs only [go_sem, a1, a2, a3, a4, a5, a6, e1, e2, e3, e4, e5, s1, s2, s3, s4, s5, List.map_append, Flt.row, eq_self, ↓reduceIte]) (by simp -dsimp -implicitDefEqProofs only [go_sem, a1, a2, a3, a4, a5, a6, e1, e2, e3, e4, e5, s1, s2, s3, s4, s5, List.map_append, Flt.row, eq_self, ↓reduceIte]) (by simp -dsimp -implicitDefEqProofs only [go_sem, a1, a2, a3, a4, a5, a6, e1, e2, e3, e4, e5, s1, s2, s3, s4, s5, List.map_append, Flt.row, eq_self, ↓reduceIte]) (by simp -dsimp -implicitDefEqProofs only [go_sem, a1, a2, a3, a4, a5, a6, e1, e2, e3, e4, e5, s1, s2, s3, s4, s5, List.map_append, Flt.row, eq_self, ↓reduceIte]))
  · refine ⟨i + 1, by omega, by omega, ?_⟩
    rw [es, show difN a b i = [] from by rw [difN, if1, if_neg (by first | (simp; omega) | (simp [spNe] at ht ⊢; omega))], List.map_nil, List.append_nil]
    refine rR ?_ <;> first | exact hdT | apply zN
    (have uU := zA @a1 (zA @a2 (zA @a3 (zA @a4 (zA @a5 (zA @a6 (zA @e1 (zA @e2 (zA @e3 (zA @e4 (zA @e5 (zA @s1 (zA @s2 (zA @s3 (zA @s4 @s5)))))))))))))); exact wkU)
  · have hin : i = n := by omega
    subst hin
    refine ⟨k + 1, [], accH k 2 l [(D, ⟨6, false, [[accV k l, c1, c2, c3, c4, c5]]⟩)], ?_, _, rfl, rfl, rfl, by rw [el]⟩
    (have uU := zA @a1 (zA @a2 (zA @a3 (zA @a4 (zA @a5 (zA @a6 (zA @e1 (zA @e2 (zA @e3 (zA @e4 (zA @e5 (zA @s1 (zA @s2 (zA @s3 (zA @s4 @s5)))))))))))))); exact wkU)
set_option maxHeartbeats 1000000 in
theorem differ1 (k D : Nat) (hD : D < k) (a b : Nat → Int) (n : Nat) (hn : n ≤ 1000) (c1 c2 c3 c4 c5 : AVal) (e1 : ∀ p, bd0 p c1 = true) (e2 : ∀ p, bd0 p c2 = true) (e3 : ∀ p, bd0 p c3 = true) (e4 : ∀ p, bd0 p c4 = true) (e5 : ∀ p, bd0 p c5 = true) :
    Tr Tryz.prog Γ 53 k [.rd 1 n (fun i => [.lit (.int .i64 (a i))]), .rd 1 n (fun i => [.lit (.int .i64 (b i))]), .fn 55 [.ptr D 0 0]] ([(D, ⟨6, false, [[c1, .lit (.slice none 0 0), c2, c3, c4, c5]]⟩)]) (fun k1 r1 H1 => k1 = k + 1 ∧ r1 = .tup [] ∧ H1 = accH k 2 ((flx (difN a b) n).map vlR) [(D, ⟨6, false, [[c1, accV k ((flx (difN a b) n).map vlR), c2, c3, c4, c5]]⟩)]) := by
  obtain ⟨a1, a2, a3, a4, a5, a6⟩ := old_name hD
  obtain ⟨s1, s2, s3, s4, s5⟩ := And.intro (sw0_off e1) (And.intro (sw0_off e2) (And.intro (sw0_off e3) (And.intro (sw0_off e4) (sw0_off e5))))
  refine Tr_at Tryz.func53 rfl 26 rfl (Nat.le_of_ble_eq_true rfl) (W_upM ?_)
  have kp : Kp [0,1,2,6,7,8,9,10,11,20] (fun i => if i = D then 0 else i - k + 1) := kpI
  have uU := zA @a1 (zA @a2 (zA @a3 (zA @a4 (zA @a5 (zA @a6 (zA @e1 (zA @e2 (zA @e3 (zA @e4 (zA @e5 (zA @s1 (zA @s2 (zA @s3 (zA @s4 @s5))))))))))))))
  refine wl ?_ <;> and_intros <;> first | exact hdT | (apply zM; (repeat intro ht); apply zM; (repeat intro hg); apply zM)
  refine M_forO (X := Nat) rfl [0,1,2,6,7,8,9,10,11,20] (k + 1) (fun i => [(10, .lit (.int .i64 (i : Int)))]) (fun i => accH k 2 ((flx (difN a b) i).map vlR) [(D, ⟨6, false, [[c1, accV k ((flx (difN a b) i).map vlR), c2, c3, c4, c5]]⟩)]) (fun i => i ≤ n) (fun i => n - i) 0 ?_ (Nat.zero_le _) ?_
  · rw [flx_zero, List.map_nil]
    refine rR ?_ <;> first | exact hdT | apply zN
    (have uU := zA @a1 (zA @a2 (zA @a3 (zA @a4 (zA @a5 (zA @a6 (zA @e1 (zA @e2 (zA @e3 (zA @e4 (zA @e5 (zA @s1 (zA @s2 (zA @s3 (zA @s4 @s5)))))))))))))); exact wkU)
  intro i hi
  have hfl := flx_len (difN_len a b) i
  obtain ⟨l, el, hl⟩ : ∃ x, x = ((flx (difN a b) i).map vlR) ∧ x.length ≤ i := ⟨_, rfl, by simp; omega⟩
  have es : ((flx (difN a b) (i + 1)).map vlR) = l ++ (difN a b i).map vlR := by rw [flx_succ, List.map_append, ← el]
  rw [← el]
  refine rR ?_ <;> first | exact hdT | apply zN
  refine wl ?_ <;> and_intros <;> first | exact hdT | (apply zM; (repeat intro ht); apply zM; (repeat intro hg); apply zM)
  · refine cl [.gen (.tup []) (k + 3) (accH k 2 l [(D, ⟨6, false, [[c1, accV k l, c2, c3, c4, c5]]⟩)]) [(k + 2, ⟨2, true, l ++ [[.lit (.int .i64 (i : Int)), .lit (.int .i64 (b i))]]⟩), (D, ⟨6, false, [[c1, .sl (k + 2) 0 (l.length + 1), c2, c3, c4, c5]]⟩)]] ?_ <;> and_intros <;> first | exact hdT | (apply zM; (repeat intro ht); apply zM; (repeat intro hg); apply zM)
    · exact dclo1 (k + 1) D k (by omega) (by omega) (by omega) l (by omega) c1 c2 c3 c4 c5 (i : Int) (b i) (e1 _) (e2 _) (e3 _) (e4 _) (e5 _)
    refine wl ?_ <;> and_intros <;> first | exact hdT | (apply zM; (repeat intro ht); apply zM; (repeat intro hg); apply zM)
    refine ⟨i + 1, by omega, by omega, ?_⟩
    rw [es, show difN a b i = [_] from by rw [difN, if1, if_pos (by first | (simp; omega) | (simp [spNe] at ht ⊢; omega))], List.map_cons, List.map_nil]
    refine rR ?_ <;> first | exact hdT | apply zN
    exact Mv.app (k + 2) (k) ⟨by omega, by omega⟩ ⟨by omega, by omega⟩ (wk_low (by omega) (by simp -dsimp -implicitDefEqProofs only [go_sem, a1, a2, a3, a4, a5, a6, e1, e2, e3, e4, e5, s1, s2, s3, s4, s5, List.map_append, Flt.row, eq_self, ↓reduceIte]) (by simp -dsimp -implicitDefEqProofs only [go_sem, a1, a2, a3, a4, a5, a6, e1, e2, e3, e4, e5, s1, s2, s3, s4, s5, List.map_append, Flt.row, eq_self, ↓reduceIte]) (by simp -dsimp -implicitDefEqProofs only [go_sem, a1, a2, a3, a4, a5, a6, e1, e2, e3, e4, e5, s1, s2, s3, s4, s5, List.map_append, Flt.row, eq_self, ↓reduceIte]) (by simp -dsimp -implicitDefEqProofs only [go_sem, a1, a2, a3, a4, a5, a6, e1, e2, e3, e4, e5, s1, s2, s3, s4, s5, List.map_append, Flt.row, eq_self, ↓reduceIte]))
  · refine ⟨i + 1, by omega, by omega, ?_⟩
    rw [es, show difN a b i = [] from by rw [difN, if1, if_neg (by first | (simp; omega) | (simp [spNe] at ht ⊢; omega))], List.map_nil, List.append_nil]
    refine rR ?_ <;> first | exact hdT | apply zN
    (have uU := zA @a1 (zA @a2 (zA @a3 (zA @a4 (zA @a5 (zA @a6 (zA @e1 (zA @e2 (zA @e3 (zA @e4 (zA @e5 (zA @s1 (zA @s2 (zA @s3 (zA @s4 @s5)))))))))))))); exact wkU)
  · have hin : i = n := by omega
    subst hin
    refine ⟨k + 1, [], accH k 2 l [(D, ⟨6, false, [[c1, accV k l, c2, c3, c4, c5]]⟩)], ?_, _, rfl, rfl, rfl, by rw [el]⟩
    (have uU := zA @a1 (zA @a2 (zA @a3 (zA @a4 (zA @a5 (zA @a6 (zA @e1 (zA @e2 (zA @e3 (zA @e4 (zA @e5 (zA @s1 (zA @s2 (zA @s3 (zA @s4 @s5)))))))))))))); exact wkU)
set_option maxHeartbeats 1000000 in
theorem differ2 (k D : Nat) (hD : D < k) (a b : St) (n : Nat) (hn : n ≤ 1000) (c1 c2 c3 c4 c5 : AVal) (e1 : ∀ p, bd0 p c1 = true) (e2 : ∀ p, bd0 p c2 = true) (e3 : ∀ p, bd0 p c3 = true) (e4 : ∀ p, bd0 p c4 = true) (e5 : ∀ p, bd0 p c5 = true) :
    Tr Tryz.prog Γ 56 k [.rd 2 n (gf a), .rd 2 n (gf b), .fn 57 [.ptr D 0 0]] ([(D, ⟨6, false, [[c1, c2, .lit (.slice none 0 0), c3, c4, c5]]⟩)]) (fun k1 r1 H1 => k1 = k + 1 ∧ r1 = .tup [] ∧ H1 = accH k 2 ((flx (difG a b) n).map vlR) [(D, ⟨6, false, [[c1, c2, accV k ((flx (difG a b) n).map vlR), c3, c4, c5]]⟩)]) := by
  obtain ⟨a1, a2, a3, a4, a5, a6⟩ := old_name hD
  obtain ⟨s1, s2, s3, s4, s5⟩ := And.intro (sw0_off e1) (And.intro (sw0_off e2) (And.intro (sw0_off e3) (And.intro (sw0_off e4) (sw0_off e5))))
  refine Tr_at Tryz.func56 rfl 26 rfl (Nat.le_of_ble_eq_true rfl) (W_upM ?_)
  have kp : Kp [0,1,2,6,7,8,9,10,11,20] (fun i => if i = D then 0 else i - k + 1) := kpI
  have uU := zA @a1 (zA @a2 (zA @a3 (zA @a4 (zA @a5 (zA @a6 (zA @e1 (zA @e2 (zA @e3 (zA @e4 (zA @e5 (zA @s1 (zA @s2 (zA @s3 (zA @s4 @s5))))))))))))))
  refine wl ?_ <;> and_intros <;> first | exact hdT | (apply zM; (repeat intro ht); apply zM; (repeat intro hg); apply zM)
  refine M_forO (X := Nat) rfl [0,1,2,6,7,8,9,10,11,20] (k + 1) (fun i => [(10, .lit (.int .i64 (i : Int)))]) (fun i => accH k 2 ((flx (difG a b) i).map vlR) [(D, ⟨6, false, [[c1, c2, accV k ((flx (difG a b) i).map vlR), c3, c4, c5]]⟩)]) (fun i => i ≤ n) (fun i => n - i) 0 ?_ (Nat.zero_le _) ?_
  · rw [flx_zero, List.map_nil]
    refine rR ?_ <;> first | exact hdT | apply zN
    (have uU := zA @a1 (zA @a2 (zA @a3 (zA @a4 (zA @a5 (zA @a6 (zA @e1 (zA @e2 (zA @e3 (zA @e4 (zA @e5 (zA @s1 (zA @s2 (zA @s3 (zA @s4 @s5)))))))))))))); exact wkU)
  intro i hi
  have hfl := flx_len (difG_len a b) i
  obtain ⟨l, el, hl⟩ : ∃ x, x = ((flx (difG a b) i).map vlR) ∧ x.length ≤ i := ⟨_, rfl, by simp; omega⟩
  have es : ((flx (difG a b) (i + 1)).map vlR) = l ++ (difG a b i).map vlR := by rw [flx_succ, List.map_append, ← el]
  rw [← el]
  refine rR ?_ <;> first | exact hdT | apply zN
  refine wl ?_ <;> and_intros <;> first | exact hdT | (apply zM; (repeat intro ht); apply zM; (repeat intro hg); apply zM)
  · refine cl [.gen (.tup []) (k + 5) (accH k 2 l [(D, ⟨6, false, [[c1, c2, accV k l, c3, c4, c5]]⟩)]) [(k + 4, ⟨2, true, l ++ [[.lit (.int .i64 (i : Int)), .lit (.int .i64 (b.wt i))]]⟩), (D, ⟨6, false, [[c1, c2, .sl (k + 4) 0 (l.length + 1), c3, c4, c5]]⟩)]] ?_ <;> and_intros <;> first | exact hdT | (apply zM; (repeat intro ht); apply zM; (repeat intro hg); apply zM)
    · exact dclo2 (k + 2) D k (by omega) (by omega) (by omega) l (by omega) c1 c2 c3 c4 c5 (i : Int) (b.par i) (b.wt i) (e1 _) (e2 _) (e3 _) (e4 _) (e5 _)
    refine wl ?_ <;> and_intros <;> first | exact hdT | (apply zM; (repeat intro ht); apply zM; (repeat intro hg); apply zM)
    refine ⟨i + 1, by omega, by omega, ?_⟩
    rw [es, show difG a b i = [_] from by rw [difG, if1, if_pos (by first | (simp; omega) | (simp [spNe] at ht ⊢; omega))], List.map_cons, List.map_nil]
    refine rR ?_ <;> first | exact hdT | apply zN
    exact Mv.app (k + 4) (k) ⟨by omega, by omega⟩ ⟨by omega, by omega⟩ (wk_low (by omega) (by simp -dsimp -implicitDefEqProofs only [go_sem, a1, a2, a3, a4, a5, a6, e1, e2, e3, e4, e5, s1, s2, s3, s4, s5, List.map_append, Flt.row, eq_self, ↓reduceIte]) (by simp -dsimp -implicitDefEqProofs only [go_sem, a1, a2, a3, a4, a5, a6, e1, e2, e3, e4, e5, s1, s2, s3, s4, s5, List.map_append, Flt.row, eq_self, ↓reduceIte]) (by simp -dsimp -implicitDefEqProofs only [go_sem, a1, a2, a3, a4, a5, a6, e1, e2, e3, e4, e5, s1, s2, s3, s4, s5, List.map_append, Flt.row, eq_self, ↓reduceIte]) (by simp -dsimp -implicitDefEqProofs only [go_sem, a1, a2, a3, a4, a5, a6, e1, e2, e3, e4, e5, s1, s2, s3, s4, s5, List.map_append, Flt.row, eq_self, ↓reduceIte]))
  · refine ⟨i + 1, by omega, by omega, ?_⟩
    rw [es, show difG a b i = [] from by rw [difG, if1, if_neg (by first | (simp; omega) | (simp [spNe] at ht ⊢; omega))], List.map_nil, List.append_nil]
    refine rR ?_ <;> first | exact hdT | apply zN
    (have uU := zA @a1 (zA @a2 (zA @a3 (zA @a4 (zA @a5 (zA @a6 (zA @e1 (zA @e2 (zA @e3 (zA @e4 (zA @e5 (zA @s1 (zA @s2 (zA @s3 (zA @s4 @s5)))))))))))))); exact wkU)
  · have hin : i = n := by omega
    subst hin
    refine ⟨k + 1, [], accH k 2 l [(D, ⟨6, false, [[c1, c2, accV k l, c3, c4, c5]]⟩)], ?_, _, rfl, rfl, rfl, by rw [el]⟩
    (have uU := zA @a1 (zA @a2 (zA @a3 (zA @a4 (zA @a5 (zA @a6 (zA @e1 (zA @e2 (zA @e3 (zA @e4 (zA @e5 (zA @s1 (zA @s2 (zA @s3 (zA @s4 @s5)))))))))))))); exact wkU)
set_option maxHeartbeats 1000000 in
theorem differ3 (k D : Nat) (hD : D < k) (id : Nat) (hid : id < k) (hne : D ≠ id) (E : Nat) (hE : E < k) (hDE : D ≠ E) (hEi : E ≠ id) (l0 : List (Int × Int × Sp)) (hl0 : l0.length ≤ 10000) (a b : St) (g : Nat) (n : Nat) (hn : n ≤ 1000) (c1 c2 c3 c4 c5 : AVal) (e1 : ∀ p, bd0 p c1 = true) (e2 : ∀ p, bd0 p c2 = true) (e3 : ∀ p, bd0 p c3 = true) (e4 : ∀ p, bd0 p c4 = true) (e5 : ∀ p, bd0 p c5 = true) :
    Tr Tryz.prog Γ 59 k [.rd 3 n (sf a g), .rd 3 n (sf b g), .fn 60 [.ptr D 0 0, .ptr E 0 0]] (accH id 5 (l0.map pR) [(D, ⟨6, false, [[c1, c2, c3, c4, c5, accV id (l0.map pR)]]⟩), (E, ⟨1, true, [[.lit (.int .i64 (g : Int))]]⟩)]) (fun k1 r1 H1 => k1 = k + 1 ∧ r1 = .tup [] ∧ H1 = accH k 5 ((l0 ++ flx (difS a b g) n).map pR) [(D, ⟨6, false, [[c1, c2, c3, c4, c5, accV k ((l0 ++ flx (difS a b g) n).map pR)]]⟩), (E, ⟨1, true, [[.lit (.int .i64 (g : Int))]]⟩)]) := by
  obtain ⟨a1, a2, a3, a4, a5, a6⟩ := old_name hD
  obtain ⟨s1, s2, s3, s4, s5⟩ := And.intro (sw0_off e1) (And.intro (sw0_off e2) (And.intro (sw0_off e3) (And.intro (sw0_off e4) (sw0_off e5))))
  obtain ⟨b1, b2, b3, b4, b5, b6⟩ := old_name hid
  obtain ⟨d1, d2⟩ := two_names hne
  obtain ⟨g1, g2, g3, g4, g5, g6⟩ := old_name hE
  obtain ⟨d3, d4⟩ := two_names hDE
  obtain ⟨d5, d6⟩ := two_names hEi
  refine Tr_at Tryz.func59 rfl 26 rfl (Nat.le_of_ble_eq_true rfl) (W_upM ?_)
  refine W_mv (Mv.fresh id (by omega)) ?_
  have uU := zA @a1 (zA @a2 (zA @a3 (zA @a4 (zA @a5 (zA @a6 (zA @e1 (zA @e2 (zA @e3 (zA @e4 (zA @e5 (zA @s1 (zA @s2 (zA @s3 (zA @s4 (zA @s5 (zA @b1 (zA @b2 (zA @b3 (zA @b4 (zA @b5 (zA @b6 (zA @d1 (zA @d2 (zA @g1 (zA @g2 (zA @g3 (zA @g4 (zA @g5 (zA @g6 (zA @d3 (zA @d4 (zA @d5 @d6))))))))))))))))))))))))))))))))
  refine rR ?_ <;> first | exact hdT | apply zN
  have kp : Kp [0,1,2,6,7,8,9,10,11,20] (fun i => if i = D then 0 else if i = E then 1 else if i = id then 2 else i - k + 3) := kpI
  refine wl ?_ <;> and_intros <;> first | exact hdT | (apply zM; (repeat intro ht); apply zM; (repeat intro hg); apply zM)
  refine M_forO (X := Nat) rfl [0,1,2,6,7,8,9,10,11,20] (k + 1) (fun i => [(10, .lit (.int .i64 (i : Int)))]) (fun i => accH k 5 ((l0 ++ flx (difS a b g) i).map pR) [(D, ⟨6, false, [[c1, c2, c3, c4, c5, accV k ((l0 ++ flx (difS a b g) i).map pR)]]⟩), (E, ⟨1, true, [[.lit (.int .i64 (g : Int))]]⟩)]) (fun i => i ≤ n) (fun i => n - i) 0 ?_ (Nat.zero_le _) ?_
  · rw [flx_zero, List.append_nil]
    refine rR ?_ <;> first | exact hdT | apply zN
    (have uU := zA @a1 (zA @a2 (zA @a3 (zA @a4 (zA @a5 (zA @a6 (zA @e1 (zA @e2 (zA @e3 (zA @e4 (zA @e5 (zA @s1 (zA @s2 (zA @s3 (zA @s4 (zA @s5 (zA @b1 (zA @b2 (zA @b3 (zA @b4 (zA @b5 (zA @b6 (zA @d1 (zA @d2 (zA @g1 (zA @g2 (zA @g3 (zA @g4 (zA @g5 (zA @g6 (zA @d3 (zA @d4 (zA @d5 @d6)))))))))))))))))))))))))))))))); exact wkU)
  intro i hi
  have hfl := flx_len (difS_len a b g) i
  obtain ⟨l, el, hl⟩ : ∃ x, x = ((l0 ++ flx (difS a b g) i).map pR) ∧ x.length ≤ 10000 + i := ⟨_, rfl, by simp; omega⟩
  have es : ((l0 ++ flx (difS a b g) (i + 1)).map pR) = l ++ (difS a b g i).map pR := by rw [flx_succ, ← List.append_assoc, List.map_append, ← el]
  rw [← el]
  refine rR ?_ <;> first | exact hdT | apply zN
  refine wl ?_ <;> and_intros <;> first | exact hdT | (apply zM; (repeat intro ht); apply zM; (repeat intro hg); apply zM)
  · refine cl [.gen (.tup []) (k + 5) (accH k 5 l [(D, ⟨6, false, [[c1, c2, c3, c4, c5, accV k l]]⟩), (E, ⟨1, true, [[.lit (.int .i64 (g : Int))]]⟩)]) [(k + 4, ⟨5, true, l ++ [[.lit (.int .i64 (g : Int)), .lit (.int .i64 (i : Int)), .lit (.int .u64 (b.sp g i).v), .lit (.int .u32 (b.sp g i).r), .lit (.int .u64 (b.sp g i).floor)]]⟩), (D, ⟨6, false, [[c1, c2, c3, c4, c5, .sl (k + 4) 0 (l.length + 1)]]⟩), (E, ⟨1, true, [[.lit (.int .i64 (g : Int))]]⟩)]] ?_ <;> and_intros <;> first | exact hdT | (apply zM; (repeat intro ht); apply zM; (repeat intro hg); apply zM)
    · exact dclo3 (k + 2) D E k (by omega) (by omega) (by omega) (by omega) hDE (by omega) l (by omega) c1 c2 c3 c4 c5 (g : Int) (i : Int) (b.sp g i).v (b.sp g i).r (b.sp g i).floor (e1 _) (e2 _) (e3 _) (e4 _) (e5 _)
    refine wl ?_ <;> and_intros <;> first | exact hdT | (apply zM; (repeat intro ht); apply zM; (repeat intro hg); apply zM)
    refine ⟨i + 1, by omega, by omega, ?_⟩
    rw [es, show difS a b g i = [_] from by rw [difS, if1, if_pos (by first | (simp [spNe]; omega) | (simp [spNe] at ht ⊢; omega))], List.map_cons, List.map_nil]
    refine rR ?_ <;> first | exact hdT | apply zN
    exact Mv.app (k + 4) (k) ⟨by omega, by omega⟩ ⟨by omega, by omega⟩ (wk_low (by omega) (by simp -dsimp -implicitDefEqProofs only [go_sem, a1, a2, a3, a4, a5, a6, e1, e2, e3, e4, e5, s1, s2, s3, s4, s5, b1, b2, b3, b4, b5, b6, d1, d2, g1, g2, g3, g4, g5, g6, d3, d4, d5, d6, List.map_append, Flt.row, eq_self, ↓reduceIte]) (by simp -dsimp -implicitDefEqProofs only [go_sem, a1, a2, a3, a4, a5, a6, e1, e2, e3, e4, e5, s1, s2, s3, s4, s5, b1, b2, b3, b4, b5, b6, d1, d2, g1, g2, g3, g4, g5, g6, d3, d4, d5, d6, List.map_append, Flt.row, eq_self, ↓reduceIte]) (by simp -dsimp -implicitDefEqProofs only [go_sem, a1, a2, a3, a4, a5, a6, e1, e2, e3, e4, e5, s1, s2, s3, s4, s5, b1, b2, b3, b4, b5, b6, d1, d2, g1, g2, g3, g4, g5, g6, d3, d4, d5, d6, List.map_append, Flt.row, eq_self, ↓reduceIte]) (by simp -dsimp -implicitDefEqProofs only [go_sem, a1, a2, a3, a4, a5, a6, e1, e2, e3, e4, e5, s1, s2, s3, s4, s5, b1, b2, b3, b4, b5, b6, d1, d2, g1, g2, g3, g4, g5, g6, d3, d4, d5, d6, List.map_append, Flt.row, eq_self, ↓reduceIte]))
  · refine ⟨i + 1, by omega, by omega, ?_⟩
    rw [es, show difS a b g i = [] from by rw [difS, if1, if_neg (by first | (simp [spNe]; omega) | (simp [spNe] at ht ⊢; omega))], List.map_nil, List.append_nil]
    refine rR ?_ <;> first | exact hdT | apply zN
    (have uU := zA @a1 (zA @a2 (zA @a3 (zA @a4 (zA @a5 (zA @a6 (zA @e1 (zA @e2 (zA @e3 (zA @e4 (zA @e5 (zA @s1 (zA @s2 (zA @s3 (zA @s4 (zA @s5 (zA @b1 (zA @b2 (zA @b3 (zA @b4 (zA @b5 (zA @b6 (zA @d1 (zA @d2 (zA @g1 (zA @g2 (zA @g3 (zA @g4 (zA @g5 (zA @g6 (zA @d3 (zA @d4 (zA @d5 @d6)))))))))))))))))))))))))))))))); exact wkU)
  · have hin : i = n := by omega
    subst hin
    refine ⟨k + 1, [], accH k 5 l [(D, ⟨6, false, [[c1, c2, c3, c4, c5, accV k l]]⟩), (E, ⟨1, true, [[.lit (.int .i64 (g : Int))]]⟩)], ?_, _, rfl, rfl, rfl, by rw [el]⟩
    (have uU := zA @a1 (zA @a2 (zA @a3 (zA @a4 (zA @a5 (zA @a6 (zA @e1 (zA @e2 (zA @e3 (zA @e4 (zA @e5 (zA @s1 (zA @s2 (zA @s3 (zA @s4 (zA @s5 (zA @b1 (zA @b2 (zA @b3 (zA @b4 (zA @b5 (zA @b6 (zA @d1 (zA @d2 (zA @g1 (zA @g2 (zA @g3 (zA @g4 (zA @g5 (zA @g6 (zA @d3 (zA @d4 (zA @d5 @d6)))))))))))))))))))))))))))))))); exact wkU)
end Go.Proofs.T
end
section
namespace Go.Proofs
open Go.Shelf
def Tryz.sortI_ren : Go.Shelf.Ren := ⟨fun | 53 => 58 | 64 => 119 | 63 => 118 | 78 => 206 | 79 => 207 | 70 => 197 | 71 => 198 | 72 => 199 | 73 => 200 | 74 => 201 | 75 => 202 | 59 => 203 | 76 => 204 | 77 => 205 | 88 => 248 | 89 => 249 | 90 => 250 | 91 => 251 | 92 => 252 | 68 => 212 | 96 => 284 | n => n, fun | 22 => 26 | 23 => 3 | 3 => 3 | 51 => 189 | 0 => 0 | 67 => 50 | 69 => 22 | 4 => 4 | 61 => 261 | 60 => 260 | 44 => 204 | 5 => 5 | 9 => 9 | 75 => 300 | 79 => 303 | 83 => 326 | 84 => 285 | n => n, fun | n => n⟩
theorem Tryz.sortI : Go.Proofs.SlLaysN.n53 Tryz.prog Tryz.sortI_ren := {
  mixed := by kernel_rfl
  f53 := ⟨Tryz.f58.name, by decide, Tryz.func58.trans (congrArg some (by kernel_rfl))⟩
  f59 := ⟨Tryz.f203.name, by decide, Tryz.func203.trans (congrArg some (by kernel_rfl))⟩
  f63 := ⟨Tryz.f118.name, by decide, Tryz.func118.trans (congrArg some (by kernel_rfl))⟩
  f64 := Tryz.func119.trans (congrArg some (by kernel_rfl))
  f68 := ⟨Tryz.f212.name, by decide, Tryz.func212.trans (congrArg some (by kernel_rfl))⟩
  f70 := ⟨Tryz.f197.name, by decide, Tryz.func197.trans (congrArg some (by kernel_rfl))⟩
  f71 := ⟨Tryz.f198.name, by decide, Tryz.func198.trans (congrArg some (by kernel_rfl))⟩
  f72 := ⟨Tryz.f199.name, by decide, Tryz.func199.trans (congrArg some (by kernel_rfl))⟩
  f73 := ⟨Tryz.f200.name, by decide, Tryz.func200.trans (congrArg some (by kernel_rfl))⟩
  f74 := ⟨Tryz.f201.name, by decide, Tryz.func201.trans (congrArg some (by kernel_rfl))⟩
  f75 := ⟨Tryz.f202.name, by decide, Tryz.func202.trans (congrArg some (by kernel_rfl))⟩
  f76 := ⟨Tryz.f204.name, by decide, Tryz.func204.trans (congrArg some (by kernel_rfl))⟩
  f77 := ⟨Tryz.f205.name, by decide, Tryz.func205.trans (congrArg some (by kernel_rfl))⟩
  f78 := Tryz.func206.trans (congrArg some (by kernel_rfl))
  f79 := Tryz.func207.trans (congrArg some (by kernel_rfl))
  f88 := ⟨Tryz.f248.name, by decide, Tryz.func248.trans (congrArg some (by kernel_rfl))⟩
  f89 := Tryz.func249.trans (congrArg some (by kernel_rfl))
  f90 := Tryz.func250.trans (congrArg some (by kernel_rfl))
  f91 := ⟨Tryz.f251.name, by decide, Tryz.func251.trans (congrArg some (by kernel_rfl))⟩
  f92 := ⟨Tryz.f252.name, by decide, Tryz.func252.trans (congrArg some (by kernel_rfl))⟩
  f96 := ⟨Tryz.f284.name, by decide, Tryz.func284.trans (congrArg some (by kernel_rfl))⟩
  t0 := Tryz.underlying0
  a0 := Tryz.isAgg0
  z0 := Tryz.sizeOf0
  v0 := Tryz.zeroValue0
  t3 := Tryz.underlying3
  a3 := Tryz.isAgg3
  z3 := Tryz.sizeOf3
  v3 := Tryz.zeroValue3
  t4 := Tryz.underlying4
  a4 := Tryz.isAgg4
  z4 := Tryz.sizeOf4
  v4 := Tryz.zeroValue4
  t5 := Tryz.underlying5
  a5 := Tryz.isAgg5
  z5 := Tryz.sizeOf5
  v5 := Tryz.zeroValue5
  t9 := Tryz.underlying9
  a9 := Tryz.isAgg9
  z9 := Tryz.sizeOf9
  v9 := Tryz.zeroValue9
  t22 := Tryz.underlying26
  a22 := Tryz.isAgg26
  z22 := Tryz.sizeOf26
  v22 := Tryz.zeroValue26
  t23 := Tryz.underlying3
  a23 := Tryz.isAgg3
  z23 := Tryz.sizeOf3
  v23 := Tryz.zeroValue3
  t44 := Tryz.underlying204
  a44 := Tryz.isAgg204
  z44 := Tryz.sizeOf204
  v44 := Tryz.zeroValue204
  t51 := Tryz.underlying189
  a51 := Tryz.isAgg189
  z51 := Tryz.sizeOf189
  v51 := Tryz.zeroValue189
  t60 := Tryz.underlying260
  a60 := Tryz.isAgg260
  z60 := Tryz.sizeOf260
  v60 := Tryz.zeroValue260
  t61 := Tryz.underlying261
  a61 := Tryz.isAgg261
  z61 := Tryz.sizeOf261
  v61 := Tryz.zeroValue261
  t67 := Tryz.underlying50
  a67 := Tryz.isAgg50
  z67 := Tryz.sizeOf50
  v67 := Tryz.zeroValue50
  t69 := Tryz.underlying22
  a69 := Tryz.isAgg22
  z69 := Tryz.sizeOf22
  v69 := Tryz.zeroValue22
  t75 := Tryz.underlying300
  a75 := Tryz.isAgg300
  z75 := Tryz.sizeOf300
  v75 := Tryz.zeroValue300
  t79 := Tryz.underlying303
  a79 := Tryz.isAgg303
  z79 := Tryz.sizeOf303
  v79 := Tryz.zeroValue303
  t83 := Tryz.underlying326
  a83 := Tryz.isAgg326
  z83 := Tryz.sizeOf326
  v83 := Tryz.zeroValue326
  t84 := Tryz.underlying285
  a84 := Tryz.isAgg285
  z84 := Tryz.sizeOf285
  v84 := Tryz.zeroValue285 }
end Go.Proofs
end
section
namespace Go.Proofs.T
open Go Go.AM Go.Proofs Go.Shelf Go.RowKit Go.Lib Go.Sort
set_option maxRecDepth 20000
variable {Γ : List (Nat × List AVal)}
theorem putRowG_heap {α : Type} [Inhabited α] {enc : α → Value} {w : World} {b : Nat} {C : Array Value} {ty : TypeId} (n : Nat) (F : Array α) (hC : w.heap[b]? = some (Obj.cells C ty (0, 0))) :
    (putRow enc (Sort.ahead w n) b 0 F).heap[b]? = some (.cells (putCells enc 0 F C) ty (0, 0)) ∧ (∀ j, j ≠ b → (putRow enc (Sort.ahead w n) b 0 F).heap[j]? = w.heap[j]?) ∧ (putRow enc (Sort.ahead w n) b 0 F).heap.size = w.heap.size := by
  refine ⟨?_, fun j hj => ?_, ?_⟩
  · simp only [putRow, mapBlock, Sort.ahead, Array.getElem?_modify, if_true]; rw [hC]; rfl
  · simp only [putRow, mapBlock, Sort.ahead, Array.getElem?_modify]; rw [if_neg (fun h => hj h.symm)]
  · simp [putRow, mapBlock, Sort.ahead]
theorem putCellsG_get {α : Type} [Inhabited α] {enc : α → Value} (F : Array α) (C : Array Value) (j : Nat) (hj : j < F.size) (hC : j < C.size) : (putCells enc 0 F C)[j]? = some (enc F[j]!) := by
  simp only [putCells, Array.getElem?_mapIdx, Array.getElem?_eq_getElem hC, Option.map_some, Nat.zero_le, Nat.zero_add, hj, and_self, if_true, Nat.sub_zero]
theorem mergeInt (l R : List Int) (hp : R.Perm l) (hs : R.Pairwise (fun x y => x ≤ y)) : (l.mergeSort fun x y => decide (x ≤ y)) = R := by
  refine List.Perm.eq_of_pairwise (le := fun x y : Int => x ≤ y) (fun a b _ _ h1 h2 => by omega) ?_ hs ((List.mergeSort_perm l _).trans hp.symm)
  have := List.pairwise_mergeSort (le := fun x y : Int => decide (x ≤ y)) (fun a b c h1 h2 => by simp only [decide_eq_true_eq] at *; omega) (fun a b => by simp only [Bool.or_eq_true, decide_eq_true_eq]; omega) l
  simpa only [decide_eq_true_eq] using this
theorem sortInt (k F : Nat) (l R : List Int) (hp : R.Perm l) (hs : R.Pairwise (fun x y => x ≤ y)) (hl : l.length ≤ 100000) :
    Tr Tryz.prog Γ 58 k [accV F (l.map nR)] (accH F 1 (l.map nR) []) (fun k1 r1 H1 => k1 = k ∧ r1 = .tup [] ∧ H1 = accH F 1 (R.map nR) []) := by
  intro A hA w G ρ cargs hr hvs
  obtain ⟨hlen, hv⟩ := hvs
  have h0 := hv 0 _ rfl
  have hc2 : cargs = #[cargs.getD 0 undef] := by
    have hsz : cargs.size = 1 := hlen.symm
    apply Array.ext
    · simp [hsz]
    · intro i hi1 hi2
      match i with
      | 0 => simp [Array.getD, hsz]
      | i + 1 => omega
  cases l with
  | nil =>
    have hR : R = [] := hp.eq_nil
    subst hR
    have e0 : cargs.getD 0 undef = .slice none 0 0 := by
      generalize cargs.getD 0 undef = x at h0
      cases h0; rfl
    rw [hc2, e0]
    have hnone : Calls Tryz.prog 58 #[.slice none 0 0] w fun e w' => e = .returned (.tuple #[]) ∧ w' = w := AnyG.slices_Sort_int_none Tryz.sortI none 0 w
    refine hnone.mono ?_
    rintro e w' ⟨rfl, rfl⟩
    refine ⟨.tuple #[], G, ρ, k, .tup [], [], rfl, ⟨rfl, rfl, rfl⟩, Nat.le_refl _, ?_, .tup rfl (fun j v hj => by simp at hj), Step.refl _ _ _ _⟩
    exact ⟨fun id _ => hr.dom id rfl, fun id B A' hid => by simp [ofHeap, AM.look] at hid, hr.inj, hr.ro, hr.glob⟩
  | cons x t =>
    obtain ⟨l, el⟩ : ∃ l, l = x :: t := ⟨_, rfl⟩
    have hne : l.length ≠ 0 := by rw [el]; simp
    have eV : accV F ((x :: t).map nR) = .sl F 0 l.length := by rw [el]; simp [accV]
    have eH : ∀ q : List Int, q.length ≠ 0 → accH F 1 (q.map nR) [] = [(F, ⟨1, true, q.map nR⟩)] := fun q hq => by
      cases q with
      | nil => simp at hq
      | cons a b => rfl
    rw [eV] at h0
    rw [← el, eH l hne] at hr
    rw [← el] at hp hl
    clear eV
    have hRne : R.length ≠ 0 := by rw [hp.length_eq]; exact hne
    rw [eH R hRne]
    have hid : ofHeap [(F, ⟨1, true, l.map nR⟩)] A F = some (⟨1, true, l.map nR⟩, A) := by simp [ofHeap, AM.look]
    obtain ⟨hAF, b, hρ, hgb, hBRF⟩ := hr.blk F _ _ hid
    simp only at hρ
    obtain ⟨cap, e0, sh, hsh⟩ : ∃ cap, cargs.getD 0 undef = .slice (some ⟨b, 0, none⟩) l.length cap ∧ ∃ sh, w.shape? b = some sh := by
      generalize cargs.getD 0 undef = x at h0
      generalize hll : l.length = ll at h0 ⊢
      cases h0 with
      | dangs _ hn => rw [hρ] at hn; cases hn
      | sl0 => exact absurd hll hne
      | sl _ hs hsh _ hnc _ ho =>
        rw [hρ] at hs; cases hs
        rcases ho with ho | ho
        · omega
        · rw [ho, Nat.zero_mul]; exact ⟨_, rfl, _, hsh⟩
    obtain ⟨⟨C, ty, hC, hrow⟩, hrl⟩ := hBRF.old hsh
    simp only [if_true] at hrow
    have hblt : b < w.heap.size := hr.owned_lt ⟨F, 1, hρ⟩
    have hget : ∀ (q : List Int) j, j < q.length → (q.map nR)[j]? = some [.lit (.int .i64 q[j]!)] := fun q j hj => by
      rw [List.getElem?_map, List.getElem?_eq_getElem hj, getElem!_pos q j hj]; rfl
    have hH : Holds (Value.int .i64) w b 0 l.toArray := by
      intro j hj
      have hj' : j < l.length := by simpa using hj
      obtain ⟨cv, h3, h4⟩ := hrow j _ 0 _ (hget l j hj') rfl
      cases h4
      refine ⟨?_, ?_⟩
      · unfold World.cell?
        simp only [hC]
        rw [Nat.mul_one, Nat.add_zero] at h3
        simp [h3, hj']
      · unfold World.frozen?
        simp [hC]
    have hcon := AnyG.slices_Sort_int Tryz.sortI b 0 cap l w hH hblt (by omega)
    change Calls Tryz.prog 58 _ _ _ at hcon
    rw [mergeInt l R hp hs] at hcon
    rw [hc2, e0]
    refine hcon.mono ?_
    rintro e w' ⟨rfl, n, os, rfl⟩
    obtain ⟨p1, p2, p3⟩ := putRowG_heap (enc := Value.int .i64) n R.toArray hC
    have hrows : ∀ r row c v, (R.map nR)[r]? = some row → row[c]? = some v → ∃ cv, (putCells (Value.int .i64) 0 R.toArray C)[r * 1 + c]? = some cv ∧ V w G noNames noAllow v cv := by
      intro r row c v hrw hcv
      have hrlt : r < R.length := by
        by_cases h : r < R.length
        · exact h
        · rw [List.getElem?_eq_none (by simp; omega)] at hrw; cases hrw
      rw [hget R r hrlt] at hrw
      cases hrw
      match c with
      | 0 =>
        simp only [List.getElem?_cons_zero, Option.some.injEq] at hcv
        subst hcv
        have hll : r < l.length := by rw [← hp.length_eq]; exact hrlt
        have hCs : r < C.size := by
          obtain ⟨cv, hcv1, _⟩ := hrow r _ 0 _ (hget l r hll) rfl
          by_cases h : r < C.size
          · exact h
          · rw [Array.getElem?_eq_none (by omega)] at hcv1; cases hcv1
        refine ⟨.int .i64 R[r]!, ?_, .lit⟩
        rw [Nat.mul_one, Nat.add_zero, putCellsG_get _ _ _ (by simpa using hrlt) hCs]
        simp
      | c + 1 => simp at hcv
    have hHF : ∀ i, ofHeap [(F, (⟨1, true, R.map nR⟩ : Blk))] A i = if i = F then some ((⟨1, true, R.map nR⟩ : Blk), A) else ofHeap [(F, (⟨1, true, l.map nR⟩ : Blk))] A i := fun i => by
      by_cases h : i = F
      · subst h; simp [ofHeap, AM.look]
      · have h' : ¬ F = i := fun e => h e.symm
        rw [if_neg h]; simp [ofHeap, AM.look, h']
    obtain ⟨q1, q2⟩ := HRel.rows (S := below k) (H' := ofHeap [(F, ⟨1, true, R.map nR⟩)] A) (B' := ⟨1, true, R.map nR⟩) hr hid hρ rfl hHF hC p1 (by simp [putCells]) p2 p3 rfl rfl rfl
      (fun i B A' hi j hj => by
        have : A' = A := by
          simp only [ofHeap, AM.look] at hi
          split at hi <;> simp at hi
          exact hi.2.symm
        subst this; exact hA j hj)
      (fun r row hrw => by
        rw [List.getElem?_map] at hrw
        cases hR : R[r]? with
        | none => rw [hR] at hrw; cases hrw
        | some f => rw [hR] at hrw; cases hrw; rfl)
      hrows rfl
    refine ⟨.tuple #[], G, ρ, k, .tup [], [(F, ⟨1, true, R.map nR⟩)], rfl, ⟨rfl, rfl, rfl⟩, Nat.le_refl _, ?_, .tup rfl (fun j v hj => by simp at hj), ?_⟩
    · refine (q1.grow os).allow _ ?_ ?_
      · intro i hi
        simp only [ofHeap, Option.map_eq_none_iff] at hi ⊢; exact hi
      · intro i B A' hi
        simp only [ofHeap] at hi ⊢
        cases hlk : AM.look [(F, (⟨1, true, R.map nR⟩ : Blk))] i with
        | none => rw [hlk] at hi; cases hi
        | some B1 => rw [hlk] at hi; cases hi; exact ⟨A, rfl, fun i hi => .inl hi⟩
    · exact q2.trans (step_grow (below k) os) (fun _ h => h)
end Go.Proofs.T
end
