import Derived.Calls
import Derived.Orders
import Derived.Laws.AppendOwn
import Derived.Laws.Rows
import Derived.Deep.LoopGhost
import Derived.Deep.MidRow
import Derived.Laws.Slices
set_option linter.unusedVariables false
set_option linter.unusedSimpArgs false
section
namespace Go.AM
inductive AVal where
  | junk
  | lit (v : Value)
  | ptr (id row col : Nat)
  | sl (id row len : Nat)
  | rp (cells : List AVal)
  | rd (sz n : Nat) (f : Nat → List AVal)
  | agg (cells : List AVal)
  | tup (vs : List AVal)
  | fn (f : FuncId) (caps : List AVal)
  | nn
  | slc (id row len cap : Nat)
  | bfn (f : FuncId) (id row col : Nat)
  | mp (id : Nat)
  | it (id : Nat)
instance : Inhabited AVal := ⟨.junk⟩
structure Blk where
  sz : Nat
  pure : Bool
  rows : List (List AVal)
abbrev Heap := List (Nat × Blk)
abbrev Fr := List (Nat × AVal)
def look {α : Type} : List (Nat × α) → Nat → Option α
  | [], _ => none
  | (a, x) :: r, k => if a = k then some x else look r k
abbrev Names := Nat → Option (Nat × Nat)
abbrev Allow := Nat → Prop
def noNames : Names := fun _ => none
def noAllow : Allow := fun _ => False
def shp (w : World) (b : Nat) : Option (Option (TypeId × Nat)) := (w.heap[b]?).map fun o => match o with
  | .cells c e _ => some (e, c.size)
  | _ => none
theorem shp_shape {w : World} {b : Nat} : w.shape? b = (shp w b).bind id := by
  unfold World.shape? shp
  cases w.heap[b]? with
  | none => rfl
  | some o => cases o <;> rfl
theorem shp_lt {w : World} {b : Nat} {x : Option (TypeId × Nat)} (h : shp w b = some x) : b < w.heap.size := by
  unfold shp at h
  by_cases hb : b < w.heap.size
  · exact hb
  · rw [Array.getElem?_eq_none (by omega)] at h; cases h
theorem shp_of {w w' : World} {b b' : Nat} (h : w'.heap[b']? = w.heap[b]?) : shp w' b' = shp w b := by unfold shp; rw [h]
inductive V (w : World) (G : Nat → Prop) : Names → Allow → AVal → Value → Prop
  | junk {ρ A cv} : V w G ρ A .junk cv
  | lit {ρ A v} : V w G ρ A (.lit v) v
  | dang {ρ A id r c x} : A id → ρ id = none → V w G ρ A (.ptr id r c) (.pointer x)
  | dangs {ρ A id r n x m c} : A id → ρ id = none → V w G ρ A (.sl id r n) (.slice x m c)
  | ptr {ρ A id r c b s ty m} : A id → ρ id = some (b, s) → w.shape? b = some (ty, m) → V w G ρ A (.ptr id r c) (.pointer (some ⟨b, r * s + c, none⟩))
  | sl {ρ A id r n b s ty m cap off} : A id → ρ id = some (b, s) → w.shape? b = some (ty, m) → (r + cap) * s ≤ m → n ≤ cap → cap ≤ maxLen → (cap = 0 ∨ off = r * s) →
      V w G ρ A (.sl id r n) (.slice (some ⟨b, off, none⟩) n cap)
  | sl0 {ρ A id r b s} : A id → ρ id = some (b, s) → V w G ρ A (.sl id r 0) (.slice none 0 0)
  | rp {ρ A cells b o} (g : Nat → Value) : G b → (∀ j v, cells[j]? = some v → w.cell? ⟨b, o + j, none⟩ = some (g j)) → (∀ j v, cells[j]? = some v → V w G noNames noAllow v (g j)) →
      V w G ρ A (.rp cells) (.pointer (some ⟨b, o, none⟩))
  | rd0 {ρ A sz f a cap} : V w G ρ A (.rd sz 0 f) (.slice a 0 cap)
  | rd {ρ A sz n f b o cap} (g : Nat → Nat → Value) : G b → n ≤ cap → n ≤ maxLen → (∀ i, i < n → (f i).length = sz) → (∀ i j v, i < n → (f i)[j]? = some v → w.cell? ⟨b, o + i * sz + j, none⟩ = some (g i j)) →
      (∀ i j v, i < n → (f i)[j]? = some v → V w G noNames noAllow v (g i j)) → V w G ρ A (.rd sz n f) (.slice (some ⟨b, o, none⟩) n cap)
  | agg {ρ A cells cs} : cells.length = cs.size → (∀ j v, cells[j]? = some v → V w G ρ A v (cs.getD j undef)) → V w G ρ A (.agg cells) (.agg cs)
  | tup {ρ A vs cs} : vs.length = cs.size → (∀ j v, vs[j]? = some v → V w G ρ A v (cs.getD j undef)) → V w G ρ A (.tup vs) (.tuple cs)
  | fn {ρ A f caps cs} : caps.length = cs.size → (∀ j v, caps[j]? = some v → V w G ρ A v (cs.getD j undef)) → V w G ρ A (.fn f caps) (.func (.func f) #[] cs)
  | nn {ρ A t v} : V w G ρ A .nn (.iface t v)
  | dangc {ρ A id r n q x m c} : A id → ρ id = none → V w G ρ A (.slc id r n q) (.slice x m c)
  | slc {ρ A id r n b s ty m cap off} : A id → ρ id = some (b, s) → w.shape? b = some (ty, m) → (r + cap) * s ≤ m → n ≤ cap → cap ≤ maxLen → (cap = 0 ∨ off = r * s) →
      V w G ρ A (.slc id r n cap) (.slice (some ⟨b, off, none⟩) n cap)
  | bfn {ρ A f id r c cv} : V w G ρ A (.ptr id r c) cv → V w G ρ A (.bfn f id r c) (.func (.func f) #[cv] #[])
  | dangm {ρ A id x} : A id → ρ id = none → V w G ρ A (.mp id) (.map x)
  | mp {ρ A id b s} : A id → ρ id = some (b, s) → shp w b = some none → V w G ρ A (.mp id) (.map (some b))
  | dangi {ρ A id x} : A id → ρ id = none → V w G ρ A (.it id) (.pointer x)
  | it {ρ A id b s} : A id → ρ id = some (b, s) → shp w b = some none → V w G ρ A (.it id) (.pointer (some ⟨b, 0, none⟩))
def owned (ρ : Names) (b : Nat) : Prop := ∃ id s, ρ id = some (b, s)
structure Step (A : Allow) (w : World) (G : Nat → Prop) (ρ : Names) (w' : World) (G' : Nat → Prop) (ρ' : Names) : Prop where
  size : w.heap.size ≤ w'.heap.size
  keep : ∀ b, b < w.heap.size → ¬ owned ρ b → w'.heap[b]? = w.heap[b]?
  shape : ∀ b, b < w.heap.size → shp w' b = shp w b
  g : ∀ b, G b → G' b
  g' : ∀ b, G' b → G b ∨ owned ρ b ∨ w.heap.size ≤ b
  own : ∀ b, owned ρ' b → owned ρ b ∨ w.heap.size ≤ b
  ids : ∀ id, A id → ρ' id = none ∨ ρ' id = ρ id
  os : w'.os = w.os
  tape : w'.tape = w.tape
  output : w'.output = w.output
theorem Step.refl (A : Allow) (w : World) (G : Nat → Prop) (ρ : Names) : Step A w G ρ w G ρ :=
  ⟨Nat.le_refl _, fun _ _ _ => rfl, fun _ _ => rfl, fun _ h => h, fun _ h => .inl h, fun _ h => .inl h, fun _ _ => .inr rfl, rfl, rfl, rfl⟩
theorem Step.trans {A A' : Allow} {w w1 w2 : World} {G G1 G2 : Nat → Prop} {ρ ρ1 ρ2 : Names} (h : Step A w G ρ w1 G1 ρ1) (k : Step A' w1 G1 ρ1 w2 G2 ρ2) (hA : ∀ i, A i → A' i) :
    Step A w G ρ w2 G2 ρ2 where
  size := Nat.le_trans h.size k.size
  keep := fun b hb ho => by
    rw [k.keep b (Nat.lt_of_lt_of_le hb h.size) (fun ho1 => (h.own b ho1).elim ho (fun hc => absurd hb (Nat.not_lt.2 hc)))]
    exact h.keep b hb ho
  shape := fun b hb => by rw [k.shape b (Nat.lt_of_lt_of_le hb h.size), h.shape b hb]
  g := fun b hb => k.g b (h.g b hb)
  g' := fun b hb => by
    rcases k.g' b hb with h1 | h1 | h1
    · exact h.g' b h1
    · exact .inr (h.own b h1)
    · exact .inr (.inr (Nat.le_trans h.size h1))
  own := fun b hb => by
    rcases k.own b hb with h1 | h1
    · exact h.own b h1
    · exact .inr (Nat.le_trans h.size h1)
  ids := fun id ha => by
    rcases k.ids id (hA id ha) with h1 | h1
    · exact .inl h1
    · rcases h.ids id ha with h2 | h2
      · exact .inl (h1.trans h2)
      · exact .inr (h1.trans h2)
  os := k.os.trans h.os
  tape := k.tape.trans h.tape
  output := k.output.trans h.output
theorem shape_lt {w : World} {b : Nat} {x : TypeId × Nat} (h : w.shape? b = some x) : b < w.heap.size := by
  unfold World.shape? at h
  by_cases hb : b < w.heap.size
  · exact hb
  · rw [Array.getElem?_eq_none (by omega)] at h; simp at h
theorem cell_block {w w' : World} {b o : Nat} (h : w'.heap[b]? = w.heap[b]?) : w'.cell? ⟨b, o, none⟩ = w.cell? ⟨b, o, none⟩ := World.cell?_of_block (w := w) h
theorem shape_keep {w w' : World} (hs : ∀ b, b < w.heap.size → shp w' b = shp w b) {b : Nat} {x : TypeId × Nat} (h : w.shape? b = some x) : w'.shape? b = some x := by
  rw [shp_shape, hs b (shape_lt h), ← shp_shape]; exact h
theorem V.mono {w w' : World} {G G' : Nat → Prop} (hG : ∀ b, G b → G' b) (hk : ∀ b, G b → w'.heap[b]? = w.heap[b]?) (hs : ∀ b, b < w.heap.size → shp w' b = shp w b)
    {ρ : Names} {A : Allow} {v : AVal} {cv : Value} (h : V w G ρ A v cv) : ∀ {ρ' : Names} {A' : Allow}, (∀ id, A id → A' id) → (∀ id, A id → ρ' id = none ∨ ρ' id = ρ id) → V w' G' ρ' A' v cv := by
  induction h with
  | nn => intros; exact .nn
  | dangc ha hr =>
    intro ρ' A' hA hρ
    rcases hρ _ ha with h1 | h1
    · exact .dangc (hA _ ha) h1
    · exact .dangc (hA _ ha) (h1.trans hr)
  | slc ha hr hsh h1 h2 h3 h4 =>
    intro ρ' A' hA hρ
    rcases hρ _ ha with h5 | h5
    · exact .dangc (hA _ ha) h5
    · exact .slc (hA _ ha) (h5.trans hr) (shape_keep hs hsh) h1 h2 h3 h4
  | bfn h ih => intro ρ' A' hA hρ; exact .bfn (ih hA hρ)
  | junk => intros; exact .junk
  | lit => intros; exact .lit
  | dang ha hr =>
    intro ρ' A' hA hρ
    rcases hρ _ ha with h1 | h1
    · exact .dang (hA _ ha) h1
    · exact .dang (hA _ ha) (h1.trans hr)
  | dangs ha hr =>
    intro ρ' A' hA hρ
    rcases hρ _ ha with h1 | h1
    · exact .dangs (hA _ ha) h1
    · exact .dangs (hA _ ha) (h1.trans hr)
  | ptr ha hr hsh =>
    intro ρ' A' hA hρ
    rcases hρ _ ha with h1 | h1
    · exact .dang (hA _ ha) h1
    · exact .ptr (hA _ ha) (h1.trans hr) (shape_keep hs hsh)
  | dangm ha hr =>
    intro ρ' A' hA hρ
    rcases hρ _ ha with h1 | h1
    · exact .dangm (hA _ ha) h1
    · exact .dangm (hA _ ha) (h1.trans hr)
  | mp ha hr hsh =>
    intro ρ' A' hA hρ
    rcases hρ _ ha with h1 | h1
    · exact .dangm (hA _ ha) h1
    · exact .mp (hA _ ha) (h1.trans hr) ((hs _ (shp_lt hsh)).trans hsh)
  | dangi ha hr =>
    intro ρ' A' hA hρ
    rcases hρ _ ha with h1 | h1
    · exact .dangi (hA _ ha) h1
    · exact .dangi (hA _ ha) (h1.trans hr)
  | it ha hr hsh =>
    intro ρ' A' hA hρ
    rcases hρ _ ha with h1 | h1
    · exact .dangi (hA _ ha) h1
    · exact .it (hA _ ha) (h1.trans hr) ((hs _ (shp_lt hsh)).trans hsh)
  | sl ha hr hsh h1 h2 h3 h4 =>
    intro ρ' A' hA hρ
    rcases hρ _ ha with h5 | h5
    · exact .dangs (hA _ ha) h5
    · exact .sl (hA _ ha) (h5.trans hr) (shape_keep hs hsh) h1 h2 h3 h4
  | sl0 ha hr =>
    intro ρ' A' hA hρ
    rcases hρ _ ha with h1 | h1
    · exact .dangs (hA _ ha) h1
    · exact .sl0 (hA _ ha) (h1.trans hr)
  | rp g hb hc hv ih =>
    intro ρ' A' hA hρ
    exact .rp g (hG _ hb) (fun j v hj => (cell_block (hk _ hb)).trans (hc j v hj)) (fun j v hj => ih j v hj (fun _ hf => hf.elim) (fun _ hf => hf.elim))
  | rd0 => intros; exact .rd0
  | rd g hb hcap hn hl hc hv ih =>
    intro ρ' A' hA hρ
    exact .rd g (hG _ hb) hcap hn hl (fun i j v hi hj => (cell_block (hk _ hb)).trans (hc i j v hi hj)) (fun i j v hi hj => ih i j v hi hj (fun _ hf => hf.elim) (fun _ hf => hf.elim))
  | agg hl hv ih => intro ρ' A' hA hρ; exact .agg hl fun j v hj => ih j v hj hA hρ
  | tup hl hv ih => intro ρ' A' hA hρ; exact .tup hl fun j v hj => ih j v hj hA hρ
  | fn hl hv ih => intro ρ' A' hA hρ; exact .fn hl fun j v hj => ih j v hj hA hρ
def mapL (es : List MapEntry) (clock : Nat) : List Value := .int .i64 clock :: .int .i64 es.length :: .int .i64 1 :: es.flatMap fun e => [e.key, e.val, .int .i64 e.born]
def iterL (m : Option Nat) (since : Nat) (seen : Array Nat) (c0 : Nat) : List Value := .int .i64 c0 :: .int .i64 seen.size :: .int .i64 2 :: .map m :: .int .i64 since :: .int .i64 0 :: seen.toList.flatMap fun (x : Nat) => [Value.int .i64 (x : Int), .int .i64 0, .int .i64 0]
inductive ObjC : Obj → Array Value → Prop
  | cells {C ty} : ObjC (.cells C ty (0, 0)) C
  | map {es clock} : ObjC (.map es clock) (mapL es.toList clock).toArray
  | iter {m since seen c0} : ObjC (.mapIter m since seen c0) (iterL m since seen c0).toArray
theorem ObjC.shaped {w : World} {b : Nat} {o : Obj} {C : Array Value} {x : TypeId × Nat} (h : ObjC o C) (ho : w.heap[b]? = some o) (hs : w.shape? b = some x) : o = .cells C x.1 (0, 0) := by
  cases h with
  | cells => simp only [World.shape?, ho] at hs; cases hs; rfl
  | map => simp [World.shape?, ho] at hs
  | iter => simp [World.shape?, ho] at hs
structure BRel (w : World) (G : Nat → Prop) (ρ : Names) (A : Allow) (B : Blk) (b : Nat) : Prop where
  ex : ∃ C o, (w.heap[b]? = some o ∧ ObjC o C) ∧ ∀ r row c v, B.rows[r]? = some row → row[c]? = some v →
    ∃ cv, C[r * B.sz + c]? = some cv ∧ V w G (if B.pure then noNames else ρ) (if B.pure then noAllow else A) v cv
  len : ∀ (r : Nat) row, B.rows[r]? = some row → row.length = B.sz
theorem BRel.old {w : World} {G : Nat → Prop} {ρ : Names} {A : Allow} {B : Blk} {b : Nat} {x : TypeId × Nat} (h : BRel w G ρ A B b) (hs : w.shape? b = some x) :
    (∃ C ty, w.heap[b]? = some (.cells C ty (0, 0)) ∧ ∀ r row c v, B.rows[r]? = some row → row[c]? = some v →
      ∃ cv, C[r * B.sz + c]? = some cv ∧ V w G (if B.pure then noNames else ρ) (if B.pure then noAllow else A) v cv) ∧ ∀ (r : Nat) row, B.rows[r]? = some row → row.length = B.sz := by
  obtain ⟨⟨C, o, ⟨h1, h2⟩, h3⟩, h4⟩ := h
  exact ⟨⟨C, _, h2.shaped h1 hs ▸ h1, h3⟩, h4⟩
abbrev Owner := Nat → Option (Blk × Allow)
structure HRel (Γ : List (Nat × List AVal)) (w : World) (G : Nat → Prop) (ρ : Names) (H : Owner) : Prop where
  dom : ∀ id, H id = none → ρ id = none
  blk : ∀ id B A, H id = some (B, A) → A id ∧ ∃ b, ρ id = some (b, B.sz) ∧ ¬ G b ∧ BRel w G ρ A B b
  inj : ∀ i j b s t, ρ i = some (b, s) → ρ j = some (b, t) → i = j
  ro : ∀ b, G b → b < w.heap.size
  glob : ∀ g cells, look Γ g = some cells → V w G noNames noAllow (.rp cells) (.pointer (some ⟨g, 0, none⟩)) ∧ G g ∧ ∃ C ty x, w.heap[g]? = some (.cells C ty x) ∧ C.size = cells.length
theorem HRel.owned_not_ro {Γ : List (Nat × List AVal)} {w : World} {G : Nat → Prop} {ρ : Names} {H : Owner} (h : HRel Γ w G ρ H) {b : Nat} (ho : owned ρ b) : ¬ G b := by
  obtain ⟨id, s, hr⟩ := ho
  cases hH : H id with
  | none => rw [h.dom id hH] at hr; cases hr
  | some x =>
    obtain ⟨B, A⟩ := x
    obtain ⟨_, b', hb', hg, _⟩ := h.blk id B A hH
    rw [hr] at hb'; cases hb'; exact hg
theorem HRel.owned_lt {Γ : List (Nat × List AVal)} {w : World} {G : Nat → Prop} {ρ : Names} {H : Owner} (h : HRel Γ w G ρ H) {b : Nat} (ho : owned ρ b) : b < w.heap.size := by
  obtain ⟨id, s, hr⟩ := ho
  cases hH : H id with
  | none => rw [h.dom id hH] at hr; cases hr
  | some x =>
    obtain ⟨B, A⟩ := x
    obtain ⟨_, b', hb', _, hB⟩ := h.blk id B A hH
    rw [hr] at hb'; cases hb'
    obtain ⟨C, o, ⟨hc, _⟩, _⟩ := hB.ex
    by_cases hb : b < w.heap.size
    · exact hb
    · rw [Array.getElem?_eq_none (by omega)] at hc; cases hc
theorem V.step {Γ : List (Nat × List AVal)} {w w' : World} {G G' : Nat → Prop} {ρ ρ' : Names} {H : Owner} {A B A' : Allow} {v : AVal} {cv : Value} (h : V w G ρ A v cv) (hr : HRel Γ w G ρ H)
    (hs : Step B w G ρ w' G' ρ') (hB : ∀ i, A i → B i) (hA : ∀ i, A i → A' i) : V w' G' ρ' A' v cv :=
  h.mono hs.g (fun b hb => hs.keep b (hr.ro b hb) (fun ho => hr.owned_not_ro ho hb)) hs.shape hA (fun id hi => hs.ids id (hB id hi))
theorem glob_step {Γ : List (Nat × List AVal)} {w w' : World} {G G' : Nat → Prop} {ρ ρ' : Names} {H : Owner} {B : Allow} (hr : HRel Γ w G ρ H) (hs : Step B w G ρ w' G' ρ') :
    ∀ g cells, look Γ g = some cells → V w' G' noNames noAllow (.rp cells) (.pointer (some ⟨g, 0, none⟩)) ∧ G' g ∧ ∃ C ty x, w'.heap[g]? = some (.cells C ty x) ∧ C.size = cells.length := fun g cells hg => by
  obtain ⟨h1, h2, C, ty, x, h3, h4⟩ := hr.glob g cells hg
  exact ⟨h1.mono hs.g (fun b hb => hs.keep b (hr.ro b hb) (fun ho => hr.owned_not_ro ho hb)) hs.shape (fun _ h => h) (fun _ h => h.elim), hs.g _ h2, C, ty, x,
    by rw [hs.keep g (hr.ro g h2) (fun ho => hr.owned_not_ro ho h2)]; exact h3, h4⟩
end Go.AM
end
section
namespace Go.AM
def ofHeap (H : Heap) (A : Allow) : Owner := fun id => (look H id).map fun B => (B, A)
def below (k : Nat) : Allow := fun i => i < k
def alw (A0 : Allow) (kb k : Nat) : Allow := fun i => A0 i ∨ (kb ≤ i ∧ i < k)
structure Inv (Γ : List (Nat × List AVal)) (nt : Nat) (w : World) (G : Nat → Prop) (ρ : Names) (A : Allow) (a : Act) (fr : Fr) (H : Heap) : Prop where
  rel : HRel Γ w G ρ (ofHeap H A)
  size : a.tmps.size = nt
  defers : a.defers = []
  frm : ∀ t v, look fr t = some v → V w G ρ A v (a.tmps.getD t undef)
abbrev AQ := Exit → Nat → Fr → Heap → Prop
def Post (Γ : List (Nat × List AVal)) (nt : Nat) (A0 : Allow) (kb : Nat) (w : World) (G : Nat → Prop) (ρ : Names) (Q : AQ) : Exit → Act → World → Prop := fun e a' w' =>
  ∃ G' ρ' k' fr' H', Q e k' fr' H' ∧ kb ≤ k' ∧ Inv Γ nt w' G' ρ' (alw A0 kb k') a' fr' H' ∧ Step (below kb) w G ρ w' G' ρ'
def W (P : Program) (Γ : List (Nat × List AVal)) (nt kb : Nat) (c : Code) (Q : AQ) (k : Nat) (fr : Fr) (H : Heap) : Prop :=
  ∀ A0 : Allow, (∀ i, A0 i → i < kb) → kb ≤ k → ∀ w G ρ a, Inv Γ nt w G ρ (alw A0 kb k) a fr H → c.wp P (Post Γ nt A0 kb w G ρ Q) a w
section
variable {P : Program} {Γ : List (Nat × List AVal)} {nt kb : Nat} {Q Q' : AQ} {k : Nat} {fr : Fr} {H : Heap}
theorem Post.trans {A0 : Allow} {w w1 : World} {G G1 : Nat → Prop} {ρ ρ1 : Names} {e : Exit} {a' : Act} {w' : World} (hs : Step (below kb) w G ρ w1 G1 ρ1) (h : Post Γ nt A0 kb w1 G1 ρ1 Q e a' w') :
    Post Γ nt A0 kb w G ρ Q e a' w' := by
  obtain ⟨G', ρ', k', fr', H', hq, hk, hi, hst⟩ := h
  exact ⟨G', ρ', k', fr', H', hq, hk, hi, hs.trans hst (fun _ h => h)⟩
theorem W_mono {c : Code} (h : W P Γ nt kb c Q k fr H) (hq : ∀ e k fr H, Q e k fr H → Q' e k fr H) : W P Γ nt kb c Q' k fr H := fun A0 hA0 hk w G ρ a hi =>
  wp_mono (h A0 hA0 hk w G ρ a hi) fun _ _ _ ⟨G', ρ', k', fr', H', hQ, r⟩ => ⟨G', ρ', k', fr', H', hq _ _ _ _ hQ, r⟩
theorem Post.here {A0 : Allow} {w : World} {G : Nat → Prop} {ρ : Names} {a : Act} {e : Exit} (hk : kb ≤ k) (hi : Inv Γ nt w G ρ (alw A0 kb k) a fr H) (h : Q e k fr H) : Post Γ nt A0 kb w G ρ Q e a w :=
  ⟨G, ρ, k, fr, H, h, hk, hi, Step.refl _ _ _ _⟩
theorem W_skip (h : Q .normal k fr H) : W P Γ nt kb .skip Q k fr H := fun A0 _ hk _ _ _ _ hi => wp_skip (Post.here hk hi h)
theorem W_ret (h : Q .ret k fr H) : W P Γ nt kb .ret Q k fr H := fun A0 _ hk _ _ _ _ hi => wp_ret (Post.here hk hi h)
theorem W_exit {id : Nat} (h : Q (.exit id) k fr H) : W P Γ nt kb (.exit id) Q k fr H := fun A0 _ hk _ _ _ _ hi => wp_exit (Post.here hk hi h)
def thenQ (next : Nat → Fr → Heap → Prop) (Q : AQ) : AQ
  | .normal, k, fr, H => next k fr H
  | e, k, fr, H => Q e k fr H
theorem W_seq {x y : Code} (h : W P Γ nt kb x (thenQ (W P Γ nt kb y Q) Q) k fr H) : W P Γ nt kb (.seq x y) Q k fr H := fun A0 hA0 hk w G ρ a hi =>
  wp_seq (wp_mono (h A0 hA0 hk w G ρ a hi) fun e a' w' hp => by
    obtain ⟨G', ρ', k', fr', H', hQ, hk', hi', hst⟩ := hp
    cases e with
    | normal => exact wp_mono (hQ A0 hA0 hk' w' G' ρ' a' hi') fun _ _ _ hp => Post.trans hst hp
    | exit id => exact ⟨G', ρ', k', fr', H', hQ, hk', hi', hst⟩
    | goto l => exact ⟨G', ρ', k', fr', H', hQ, hk', hi', hst⟩
    | ret => exact ⟨G', ρ', k', fr', H', hQ, hk', hi', hst⟩
    | panic ch => exact ⟨G', ρ', k', fr', H', hQ, hk', hi', hst⟩
    | outgrown => exact ⟨G', ρ', k', fr', H', hQ, hk', hi', hst⟩)
def aeval (Γ : List (Nat × List AVal)) (fr : Fr) : Operand → Option AVal
  | .tmp t => look fr t
  | .const v => some (.lit v)
  | .global g => (look Γ g).map .rp
  | .func f => some (.fn f [])
theorem V.weaken {w : World} {G : Nat → Prop} {ρ : Names} {A : Allow} {v : AVal} {cv : Value} (h : V w G noNames noAllow v cv) : V w G ρ A v cv :=
  h.mono (fun _ h => h) (fun _ _ => rfl) (fun _ _ => rfl) (fun _ h => h.elim) (fun _ h => h.elim)
theorem aeval_V {A : Allow} {w : World} {G : Nat → Prop} {ρ : Names} {a : Act} (hi : Inv Γ nt w G ρ A a fr H) {x : Operand} {v : AVal} (h : aeval Γ fr x = some v) : V w G ρ A v (a.eval x) := by
  cases x with
  | tmp t => exact hi.frm t v h
  | const c => cases h; exact .lit
  | global g =>
    simp only [aeval, Option.map_eq_some_iff] at h
    obtain ⟨cells, hl, rfl⟩ := h
    exact (hi.rel.glob g cells hl).1.weaken
  | func f => cases h; exact .fn rfl (fun j v hj => by simp at hj)
theorem V_bool {w : World} {G : Nat → Prop} {ρ : Names} {A : Allow} {u cv : Value} (h : V w G ρ A (.lit u) cv) : cv = u := by cases h; rfl
theorem W_cond {c : Operand} {x y : Code} (t : Bool) (hc : aeval Γ fr c = some (.lit (.bool t))) (ht : t = true → W P Γ nt kb x Q k fr H) (hf : t = false → W P Γ nt kb y Q k fr H) :
    W P Γ nt kb (.cond c x y) Q k fr H := fun A0 hA0 hk w G ρ a hi =>
  wp_cond_split (V_bool (aeval_V hi hc)) (fun h => ht h A0 hA0 hk w G ρ a hi) (fun h => hf h A0 hA0 hk w G ρ a hi)
def blockQ (id : Nat) (Q : AQ) : AQ
  | .exit id', k, fr, H => if id' = id then Q .normal k fr H else Q (.exit id') k fr H
  | e, k, fr, H => Q e k fr H
theorem W_block {id : Nat} {c : Code} (h : W P Γ nt kb c (blockQ id Q) k fr H) : W P Γ nt kb (.block id c) Q k fr H := fun A0 hA0 hk w G ρ a hi =>
  wp_block (wp_mono (h A0 hA0 hk w G ρ a hi) fun e a' w' hp => by
    obtain ⟨G', ρ', k', fr', H', hQ, hk', hi', hst⟩ := hp
    cases e with
    | exit id' =>
      simp only [Exit.inBlock]
      by_cases he : id' = id
      · simp only [blockQ, he, if_true] at hQ; rw [if_pos he]; exact ⟨G', ρ', k', fr', H', hQ, hk', hi', hst⟩
      · simp only [blockQ, he, if_false] at hQ; rw [if_neg he]; exact ⟨G', ρ', k', fr', H', hQ, hk', hi', hst⟩
    | normal => exact ⟨G', ρ', k', fr', H', hQ, hk', hi', hst⟩
    | goto l => exact ⟨G', ρ', k', fr', H', hQ, hk', hi', hst⟩
    | ret => exact ⟨G', ρ', k', fr', H', hQ, hk', hi', hst⟩
    | panic ch => exact ⟨G', ρ', k', fr', H', hQ, hk', hi', hst⟩
    | outgrown => exact ⟨G', ρ', k', fr', H', hQ, hk', hi', hst⟩)
theorem W_loop {c : Code} (I : Nat → Nat → Fr → Heap → Prop) (m : Nat) (h0 : I m k fr H)
    (round : ∀ m k fr H, I m k fr H → W P Γ nt kb c (thenQ (fun k' fr' H' => ∃ m', m' < m ∧ I m' k' fr' H') Q) k fr H) : W P Γ nt kb (.loop c) Q k fr H := fun A0 hA0 hk w G ρ a hi => by
  refine wp_loop_ghost (fun m a1 w1 => ∃ G1 ρ1 k1 fr1 H1, I m k1 fr1 H1 ∧ kb ≤ k1 ∧ Inv Γ nt w1 G1 ρ1 (alw A0 kb k1) a1 fr1 H1 ∧ Step (below kb) w G ρ w1 G1 ρ1) m ⟨G, ρ, k, fr, H, h0, hk, hi, Step.refl _ _ _ _⟩ ?_
  rintro m a1 w1 ⟨G1, ρ1, k1, fr1, H1, hI, hk1, hi1, hst1⟩
  refine wp_mono (round m k1 fr1 H1 hI A0 hA0 hk1 w1 G1 ρ1 a1 hi1) fun e a' w' hp => ?_
  obtain ⟨G', ρ', k', fr', H', hQ, hk', hi', hst⟩ := hp
  have hs := hst1.trans hst (fun _ h => h)
  cases e with
  | normal => obtain ⟨m', hlt, hI'⟩ := hQ; exact ⟨m', hlt, G', ρ', k', fr', H', hI', hk', hi', hs⟩
  | exit id => exact ⟨G', ρ', k', fr', H', hQ, hk', hi', hs⟩
  | goto l => exact ⟨G', ρ', k', fr', H', hQ, hk', hi', hs⟩
  | ret => exact ⟨G', ρ', k', fr', H', hQ, hk', hi', hs⟩
  | panic ch => exact ⟨G', ρ', k', fr', H', hQ, hk', hi', hs⟩
  | outgrown => exact ⟨G', ρ', k', fr', H', hQ, hk', hi', hs⟩
def bd0 (p : Nat → Bool) : AVal → Bool
  | .ptr id _ _ => p id
  | .sl id _ _ => p id
  | .slc id _ _ _ => p id
  | .bfn _ id _ _ => p id
  | .mp id => p id
  | .it id => p id
  | .agg _ => false
  | .tup _ => false
  | .fn _ caps => caps.isEmpty
  | _ => true
def bd1 (p : Nat → Bool) : AVal → Bool
  | .agg cs => cs.all (bd0 p)
  | .fn _ cs => cs.all (bd0 p)
  | v => bd0 p v
def bd (p : Nat → Bool) : AVal → Bool
  | .tup cs => cs.all (bd1 p)
  | v => bd1 p v
theorem V_bd0 {w : World} {G : Nat → Prop} {ρ : Names} {A : Allow} {p : Nat → Bool} {v : AVal} {cv : Value} (h : V w G ρ A v cv) (hb : bd0 p v = true) : V w G ρ (fun i => A i ∧ p i = true) v cv := by
  cases h with
  | nn => exact .nn
  | dangc ha hr => exact .dangc ⟨ha, hb⟩ hr
  | slc ha hr h1 h2 h3 h4 h5 => exact .slc ⟨ha, hb⟩ hr h1 h2 h3 h4 h5
  | bfn h => cases h with
    | dang ha hr => exact .bfn (.dang ⟨ha, hb⟩ hr)
    | ptr ha hr hs => exact .bfn (.ptr ⟨ha, hb⟩ hr hs)
  | dangm ha hr => exact .dangm ⟨ha, hb⟩ hr
  | mp ha hr hs => exact .mp ⟨ha, hb⟩ hr hs
  | dangi ha hr => exact .dangi ⟨ha, hb⟩ hr
  | it ha hr hs => exact .it ⟨ha, hb⟩ hr hs
  | junk => exact .junk
  | lit => exact .lit
  | dang ha hr => exact .dang ⟨ha, hb⟩ hr
  | dangs ha hr => exact .dangs ⟨ha, hb⟩ hr
  | ptr ha hr hs => exact .ptr ⟨ha, hb⟩ hr hs
  | sl ha hr h1 h2 h3 h4 h5 => exact .sl ⟨ha, hb⟩ hr h1 h2 h3 h4 h5
  | sl0 ha hr => exact .sl0 ⟨ha, hb⟩ hr
  | rp g h1 h2 h3 => exact .rp g h1 h2 h3
  | rd0 => exact .rd0
  | rd g h1 hcap hn h2 h3 h4 => exact .rd g h1 hcap hn h2 h3 h4
  | agg h1 h2 => simp [bd0] at hb
  | tup h1 h2 => simp [bd0] at hb
  | fn h1 h2 => rename_i f caps cs; cases caps with
    | nil => exact .fn h1 (fun j v hj => by simp at hj)
    | cons => simp [bd0] at hb
theorem all_get {α : Type} {l : List α} {p : α → Bool} (h : l.all p = true) {j : Nat} {v : α} (hj : l[j]? = some v) : p v = true :=
  List.all_eq_true.1 h v (List.mem_of_getElem? hj)
theorem V_bd1 {w : World} {G : Nat → Prop} {ρ : Names} {A : Allow} {p : Nat → Bool} {v : AVal} {cv : Value} (h : V w G ρ A v cv) (hb : bd1 p v = true) : V w G ρ (fun i => A i ∧ p i = true) v cv := by
  cases v with
  | agg cells => cases h with | agg h1 h2 => exact .agg h1 fun j v hj => V_bd0 (h2 j v hj) (all_get hb hj)
  | fn f cells => cases h with | fn h1 h2 => exact .fn h1 fun j v hj => V_bd0 (h2 j v hj) (all_get hb hj)
  | _ => exact V_bd0 h hb
theorem V_bd {w : World} {G : Nat → Prop} {ρ : Names} {A : Allow} {p : Nat → Bool} {v : AVal} {cv : Value} (h : V w G ρ A v cv) (hb : bd p v = true) : V w G ρ (fun i => A i ∧ p i = true) v cv := by
  cases v with
  | tup cells => cases h with | tup h1 h2 => exact .tup h1 fun j v hj => V_bd1 (h2 j v hj) (all_get hb hj)
  | _ => exact V_bd1 h hb
def leF (fr : Fr) : Fr → Prop
  | [] => True
  | (t, v) :: r => look fr t = some v ∧ leF fr r
def leH (H : Heap) : Heap → Prop
  | [] => True
  | (t, v) :: r => look H t = some v ∧ leH H r
def bdF (p : Nat → Bool) (fr : Fr) : Bool := fr.all fun x => bd p x.2
def bdH (p : Nat → Bool) (H : Heap) : Bool := H.all fun x => p x.1 && (x.2.pure || x.2.rows.all fun row => row.all (bd0 p))
def ltB (k : Nat) : Nat → Bool := fun i => decide (i < k)
theorem leF_look {fr : Fr} : ∀ {fr1 : Fr}, leF fr fr1 → ∀ t v, look fr1 t = some v → look fr t = some v
  | [], _, t, v, h => by simp [look] at h
  | (t', v') :: r, ⟨h1, h2⟩, t, v, h => by
    simp only [look] at h
    split at h
    · rename_i he; subst he; cases h; exact h1
    · exact leF_look h2 t v h
theorem leH_look {H : Heap} : ∀ {H1 : Heap}, leH H H1 → ∀ t v, look H1 t = some v → look H t = some v
  | [], _, t, v, h => by simp [look] at h
  | (t', v') :: r, ⟨h1, h2⟩, t, v, h => by
    simp only [look] at h
    split at h
    · rename_i he; subst he; cases h; exact h1
    · exact leH_look h2 t v h
theorem look_all {α : Type} {p : Nat × α → Bool} : ∀ {l : List (Nat × α)}, l.all p = true → ∀ {t v}, look l t = some v → p (t, v) = true
  | [], _, t, v, h => by simp [look] at h
  | (t', v') :: r, ha, t, v, h => by
    simp only [List.all_cons, Bool.and_eq_true] at ha
    simp only [look] at h
    split at h
    · rename_i he; subst he; cases h; exact ha.1
    · exact look_all ha.2 h
structure Wk (kb k : Nat) (fr : Fr) (H : Heap) (k1 : Nat) (fr1 : Fr) (H1 : Heap) : Prop where
  base : kb ≤ k1
  frm : leF fr fr1
  heap : leH H H1
  bound : k1 = k ∨ (bdF (ltB k1) fr1 = true ∧ bdH (ltB k1) H1 = true)
theorem Wk.inv {A0 : Allow} {w : World} {G : Nat → Prop} {ρ : Names} {a : Act} {k1 : Nat} {fr1 : Fr} {H1 : Heap} (hA0 : ∀ i, A0 i → i < kb) (hw : Wk kb k fr H k1 fr1 H1) (hi : Inv Γ nt w G ρ (alw A0 kb k) a fr H) :
    ∃ ρ', Inv Γ nt w G ρ' (alw A0 kb k1) a fr1 H1 ∧ ∀ A, Step A w G ρ w G ρ' := by
  let ρ' : Names := fun id => match look H1 id with | some _ => ρ id | none => none
  have hρ : ∀ id, ρ' id = none ∨ ρ' id = ρ id := fun id => by
    simp only [ρ']; split
    · exact .inr rfl
    · exact .inl rfl
  have hsome : ∀ id x, ρ' id = some x → ρ id = some x ∧ ∃ B, look H1 id = some B := fun id x h => by
    simp only [ρ'] at h; split at h
    · rename_i B hB; exact ⟨h, B, hB⟩
    · cases h
  have hV : ∀ v cv, V w G ρ (alw A0 kb k) v cv → V w G ρ' (alw A0 kb k) v cv := fun v cv h =>
    h.mono (fun _ h => h) (fun _ _ => rfl) (fun _ _ => rfl) (fun _ h => h) (fun id _ => hρ id)
  have hlow : ∀ i, alw A0 kb k i → i < k1 → alw A0 kb k1 i := fun i h1 h2 => by
    rcases h1 with h1 | h1
    · exact .inl h1
    · exact .inr ⟨h1.1, h2⟩
  have hVl : ∀ v cv, V w G ρ' (fun i => alw A0 kb k i ∧ ltB k1 i = true) v cv → V w G ρ' (alw A0 kb k1) v cv := fun v cv h =>
    h.mono (fun _ h => h) (fun _ _ => rfl) (fun _ _ => rfl) (fun i h => hlow i h.1 (of_decide_eq_true h.2)) (fun _ _ => .inr rfl)
  refine ⟨ρ', ⟨⟨?_, ?_, ?_, hi.rel.ro, hi.rel.glob⟩, hi.size, hi.defers, ?_⟩, fun A => ⟨Nat.le_refl _, fun _ _ _ => rfl, fun _ _ => rfl, fun _ h => h, fun _ h => .inl h, ?_, fun id _ => hρ id, rfl, rfl, rfl⟩⟩
  · intro id h
    simp only [ofHeap, Option.map_eq_none_iff] at h
    simp only [ρ', h]
  · intro id B A h
    simp only [ofHeap, Option.map_eq_some_iff] at h
    obtain ⟨B', hB, he⟩ := h
    cases he
    have hl := leH_look hw.heap id B hB
    obtain ⟨hlt, b, hb, hg, hBR⟩ := hi.rel.blk id B (alw A0 kb k) (by simp [ofHeap, hl])
    refine ⟨?_, b, by simp only [ρ', hB, hb], hg, ?_⟩
    · rcases hw.bound with rfl | ⟨_, hh⟩
      · exact hlt
      · have := look_all hh hB
        simp only [Bool.and_eq_true] at this
        exact hlow _ hlt (of_decide_eq_true this.1)
    · obtain ⟨⟨C, ty, hC, hrows⟩, hlen⟩ := hBR
      refine ⟨⟨C, ty, hC, fun r row c v hr hc => ?_⟩, hlen⟩
      obtain ⟨cv, h1, h2⟩ := hrows r row c v hr hc
      refine ⟨cv, h1, ?_⟩
      by_cases hp : B.pure = true
      · simp only [hp, if_true] at h2 ⊢; exact h2
      · simp only [hp] at h2 ⊢
        have h3 := hV v cv h2
        rcases hw.bound with rfl | ⟨_, hh⟩
        · exact h3
        · have := look_all hh hB
          simp only [Bool.and_eq_true, Bool.or_eq_true] at this
          have h5 := this.2.resolve_left hp
          have h4 := all_get (all_get h5 hr) hc
          exact hVl _ _ (V_bd0 h3 h4)
  · intro i j b s t h1 h2
    exact hi.rel.inj i j b s t (hsome _ _ h1).1 (hsome _ _ h2).1
  · intro t v h
    have h1 := hV _ _ (hi.frm t v (leF_look hw.frm t v h))
    rcases hw.bound with rfl | ⟨hf, _⟩
    · exact h1
    · exact hVl _ _ (V_bd h1 (look_all hf h))
  · rintro b ⟨id, s, hb⟩
    exact .inl ⟨id, s, (hsome _ _ hb).1⟩
end
def Vs (w : World) (G : Nat → Prop) (ρ : Names) (A : Allow) (vs : List AVal) (cs : Array Value) : Prop :=
  vs.length = cs.size ∧ ∀ j v, vs[j]? = some v → V w G ρ A v (cs.getD j undef)
def Tr (P : Program) (Γ : List (Nat × List AVal)) (f : FuncId) (k : Nat) (args : List AVal) (H : Heap) (Q : Nat → AVal → Heap → Prop) : Prop :=
  ∀ A : Allow, (∀ i, A i → i < k) → ∀ w G ρ cargs, HRel Γ w G ρ (ofHeap H A) → Vs w G ρ A args cargs →
    Calls P f cargs w fun e w' => ∃ cv G' ρ' k' r H', e = .returned cv ∧ Q k' r H' ∧ k ≤ k' ∧ HRel Γ w' G' ρ' (ofHeap H' (alw A k k')) ∧ V w' G' ρ' (alw A k k') r cv ∧ Step (below k) w G ρ w' G' ρ'
theorem Tr.mono {P : Program} {Γ : List (Nat × List AVal)} {f : FuncId} {k : Nat} {args : List AVal} {H : Heap} {Q Q' : Nat → AVal → Heap → Prop} (h : Tr P Γ f k args H Q) (hq : ∀ k r H, Q k r H → Q' k r H) :
    Tr P Γ f k args H Q' := fun A hA w G ρ cargs h1 h2 =>
  (h A hA w G ρ cargs h1 h2).mono fun _ _ ⟨cv, G', ρ', k', r, H', he, hQ, rest⟩ => ⟨cv, G', ρ', k', r, H', he, hq _ _ _ hQ, rest⟩
def argFr : Nat → List AVal → Fr
  | _, [] => []
  | i, v :: r => (i, v) :: argFr (i + 1) r
theorem argFr_look : ∀ (l : List AVal) (i t : Nat) (v : AVal), look (argFr i l) t = some v → i ≤ t ∧ l[t - i]? = some v
  | [], i, t, v, h => by simp [argFr, look] at h
  | x :: r, i, t, v, h => by
    simp only [argFr, look] at h
    split at h
    · rename_i he; subst he; cases h; exact ⟨Nat.le_refl _, by simp⟩
    · rename_i hne
      obtain ⟨h1, h2⟩ := argFr_look r (i + 1) t v h
      refine ⟨by omega, ?_⟩
      have e : t - i = (t - (i + 1)) + 1 := by omega
      rw [e, List.getElem?_cons_succ]; exact h2
end Go.AM
end
section
namespace Go.AM
def updO (H : Owner) (A : Allow) : List (Nat × Option Blk) → Owner
  | [] => H
  | (id, x) :: r => fun i => if i = id then x.map fun B => (B, A) else updO H A r i
def setN (ρ : Names) (n : Nat) (x : Option (Nat × Nat)) : Names := fun i => if i = n then x else ρ i
section
variable {Γ : List (Nat × List AVal)} {w w' : World} {G G' : Nat → Prop} {ρ ρ' : Names} {H : Owner}
theorem BRel.step {A A' S : Allow} {B : Blk} {b : Nat} (hB : BRel w G ρ A B b) (h : HRel Γ w G ρ H) (hs : Step S w G ρ w' G' ρ') (hS : ∀ i, A i → S i) (hA : ∀ i, A i → A' i) (hb : w'.heap[b]? = w.heap[b]?) :
    BRel w' G' ρ' A' B b := by
  obtain ⟨⟨C, o, hC, hr⟩, hl⟩ := hB
  refine ⟨⟨C, o, ⟨hb.trans hC.1, hC.2⟩, fun r row c v h1 h2 => ?_⟩, hl⟩
  obtain ⟨cv, h3, h4⟩ := hr r row c v h1 h2
  refine ⟨cv, h3, ?_⟩
  by_cases hp : B.pure = true
  · simp only [hp, if_true] at h4 ⊢
    exact h4.mono hs.g (fun b hb => hs.keep b (h.ro b hb) (fun ho => h.owned_not_ro ho hb)) hs.shape (fun _ h => h) (fun _ h => h.elim)
  · simp only [hp] at h4 ⊢
    exact h4.step h hs hS hA
theorem HRel.after {S : Allow} (h : HRel Γ w G ρ H) (hs : Step S w G ρ w' G' ρ') (H' : Owner) (hdom : ∀ id, H' id = none → ρ' id = none)
    (hblk : ∀ id B A, H' id = some (B, A) → A id ∧
      ((∃ A0 b, H id = some (B, A0) ∧ (∀ i, A0 i → A i) ∧ (∀ i, A0 i → S i) ∧ ρ' id = ρ id ∧ ρ id = some (b, B.sz) ∧ w'.heap[b]? = w.heap[b]? ∧ ¬ G' b) ∨
       (∃ b, ρ' id = some (b, B.sz) ∧ ¬ G' b ∧ BRel w' G' ρ' A B b)))
    (hinj : ∀ i j b s t, ρ' i = some (b, s) → ρ' j = some (b, t) → i = j) (hro : ∀ b, G' b → b < w'.heap.size) : HRel Γ w' G' ρ' H' where
  dom := hdom
  blk := fun id B A hH => by
    obtain ⟨hA, hc⟩ := hblk id B A hH
    refine ⟨hA, ?_⟩
    rcases hc with ⟨A0, b, h0, hA0, hS, hρ, hb, hk, hg⟩ | hc
    · obtain ⟨_, b', hb', _, hBR⟩ := h.blk id B A0 h0
      rw [hb] at hb'; cases hb'
      exact ⟨b, hρ.trans hb, hg, hBR.step h hs hS hA0 hk⟩
    · exact hc
  inj := hinj
  ro := hro
  glob := glob_step h hs
theorem heap_push_old (w : World) (o : Obj) {b : Nat} (hb : b < w.heap.size) : (w.alloc o).heap[b]? = w.heap[b]? := by
  show (w.heap.push o)[b]? = _
  rw [Array.getElem?_push, if_neg (Nat.ne_of_lt hb)]
theorem heap_push_new (w : World) (o : Obj) : (w.alloc o).heap[w.heap.size]? = some o := by
  show (w.heap.push o)[w.heap.size]? = _
  rw [Array.getElem?_push, if_pos rfl]
theorem step_alloc (n sz : Nat) (o : Obj) (w1 : World) (hw1 : w1.heap = w.heap) (h1 : w1.os = w.os) (h2 : w1.tape = w.tape) (h3 : w1.output = w.output) :
    Step (fun i => i ≠ n) w G ρ (w1.alloc o) G (setN ρ n (some (w.heap.size, sz))) where
  size := by show _ ≤ (w1.heap.push o).size; rw [Array.size_push, hw1]; omega
  keep := fun b hb _ => by rw [heap_push_old w1 o (by rw [hw1]; exact hb), hw1]
  shape := fun b hb => shp_of (by rw [heap_push_old w1 o (by rw [hw1]; exact hb), hw1])
  g := fun _ h => h
  g' := fun _ h => .inl h
  own := by
    rintro b ⟨id, s, hb⟩
    simp only [setN] at hb
    split at hb
    · cases hb; exact .inr (Nat.le_refl _)
    · exact .inl ⟨id, s, hb⟩
  ids := fun id hi => .inr (by simp [setN, hi])
  os := h1
  tape := h2
  output := h3
theorem HRel.allocO (h : HRel Γ w G ρ H) (n : Nat) (hn : ρ n = none) (hf : ∀ id B A, H id = some (B, A) → ¬ A n) (B : Blk) (C : Array Value) (o : Obj) (ho : ObjC o C) (A A' : Allow) (hAn : ¬ A n) (hA : ∀ i, A i → A' i) (hA' : A' n)
    (hl : ∀ (r : Nat) row, B.rows[r]? = some row → row.length = B.sz)
    (hr : ∀ r row c v, B.rows[r]? = some row → row[c]? = some v → ∃ cv, C[r * B.sz + c]? = some cv ∧ V w G (if B.pure then noNames else ρ) (if B.pure then noAllow else A) v cv)
    (w1 : World) (hw1 : w1.heap = w.heap) (h1 : w1.os = w.os) (h2 : w1.tape = w.tape) (h3 : w1.output = w.output) :
    HRel Γ (w1.alloc o) G (setN ρ n (some (w.heap.size, B.sz))) (updO H A' [(n, some B)]) := by
  have hs := step_alloc (G := G) (ρ := ρ) n B.sz o w1 hw1 h1 h2 h3
  refine h.after hs _ ?_ ?_ ?_ ?_
  · intro id hid
    simp only [updO] at hid
    split at hid
    · cases hid
    · rename_i hne; simp only [setN, hne, if_false]; exact h.dom id hid
  · intro id B' A0 hid
    simp only [updO] at hid
    split at hid
    · rename_i he; subst he; cases hid
      refine ⟨hA', .inr ⟨w.heap.size, by simp [setN], fun hg => absurd (h.ro _ hg) (Nat.lt_irrefl _), ⟨⟨C, o, ⟨by rw [← hw1]; exact heap_push_new w1 _, ho⟩, fun r row c v hrow hc => ?_⟩, hl⟩⟩⟩
      obtain ⟨cv, hcv, hv⟩ := hr r row c v hrow hc
      refine ⟨cv, hcv, ?_⟩
      by_cases hp : B.pure = true
      · simp only [hp, if_true] at hv ⊢
        exact hv.mono hs.g (fun b hb => hs.keep b (h.ro b hb) (fun ho => h.owned_not_ro ho hb)) hs.shape (fun _ h => h) (fun _ h => h.elim)
      · simp only [hp] at hv ⊢
        exact hv.step h hs (fun i hi => fun he => hAn (he ▸ hi)) hA
    · rename_i hne
      obtain ⟨hAid, b, hb, hg, hBR⟩ := h.blk id B' A0 hid
      refine ⟨hAid, .inl ⟨A0, b, hid, fun _ h => h, fun i hi he => hf id B' A0 hid (he ▸ hi), by simp [setN, hne], hb, ?_, hg⟩⟩
      have hlt := h.owned_lt ⟨id, _, hb⟩
      rw [heap_push_old w1 _ (by rw [hw1]; exact hlt), hw1]
  · intro i j b s t hi hj
    simp only [setN] at hi hj
    split at hi <;> split at hj
    · rename_i e1 e2; rw [e1, e2]
    · cases hi; exact absurd (h.owned_lt ⟨j, t, hj⟩) (Nat.lt_irrefl _)
    · cases hj; exact absurd (h.owned_lt ⟨i, s, hi⟩) (Nat.lt_irrefl _)
    · exact h.inj i j b s t hi hj
  · intro b hb
    have := h.ro b hb
    show b < (w1.heap.push _).size; rw [Array.size_push, hw1]; omega
theorem HRel.alloc (h : HRel Γ w G ρ H) (n : Nat) (hn : ρ n = none) (hf : ∀ id B A, H id = some (B, A) → ¬ A n) (B : Blk) (C : Array Value) (ty : TypeId) (A A' : Allow) (hAn : ¬ A n) (hA : ∀ i, A i → A' i) (hA' : A' n)
    (hl : ∀ (r : Nat) row, B.rows[r]? = some row → row.length = B.sz)
    (hr : ∀ r row c v, B.rows[r]? = some row → row[c]? = some v → ∃ cv, C[r * B.sz + c]? = some cv ∧ V w G (if B.pure then noNames else ρ) (if B.pure then noAllow else A) v cv)
    (w1 : World) (hw1 : w1.heap = w.heap) (h1 : w1.os = w.os) (h2 : w1.tape = w.tape) (h3 : w1.output = w.output) :
    HRel Γ (w1.alloc (.cells C ty)) G (setN ρ n (some (w.heap.size, B.sz))) (updO H A' [(n, some B)]) :=
  h.allocO n hn hf B C (.cells C ty) .cells A A' hAn hA hA' hl hr w1 hw1 h1 h2 h3
theorem shp_eq {b : Nat} {C : Array Value} {ty : TypeId} (hC : w'.heap[b]? = some (.cells C ty (0, 0))) (h : w'.shape? b = w.shape? b) : shp w' b = shp w b := by
  have e : shp w' b = some (some (ty, C.size)) := by unfold shp; rw [hC]; rfl
  rw [shp_shape, shp_shape, e] at h
  rw [e]
  cases hw : shp w b with
  | none => rw [hw] at h; cases h
  | some x => rw [hw] at h; cases x with
    | none => cases h
    | some y => cases h; rfl
theorem HRel.rewriteO (h : HRel Γ w G ρ H) {id b : Nat} {B : Blk} (hb : ρ id = some (b, B.sz)) (n : Nat) (hn : n = id ∨ (ρ n = none ∧ ∀ i B A, H i = some (B, A) → ¬ A n))
    (B' : Blk) (hsz : B'.sz = B.sz) (C' : Array Value) (o : Obj) (ho : ObjC o C') (A A' : Allow) (hAn : n = id ∨ ¬ A n) (hA : ∀ i, A i → A' i) (hA' : A' n)
    (w' : World) (hC : w'.heap[b]? = some o) (hother : ∀ j, j ≠ b → w'.heap[j]? = w.heap[j]?) (hsize : w'.heap.size = w.heap.size) (hshape : shp w' b = shp w b)
    (h1 : w'.os = w.os) (h2 : w'.tape = w.tape) (h3 : w'.output = w.output)
    (hl : ∀ (r : Nat) row, B'.rows[r]? = some row → row.length = B'.sz)
    (hr : ∀ r row c v, B'.rows[r]? = some row → row[c]? = some v → ∃ cv, C'[r * B'.sz + c]? = some cv ∧ V w G (if B'.pure then noNames else ρ) (if B'.pure then noAllow else A) v cv) :
    HRel Γ w' G (setN (setN ρ id none) n (some (b, B.sz))) (updO H A' [(n, some B'), (id, none)]) ∧ Step (fun i => i ≠ n ∨ n = id) w G ρ w' G (setN (setN ρ id none) n (some (b, B.sz))) := by
  have hbo : owned ρ b := ⟨id, _, hb⟩
  have hbg := h.owned_not_ro hbo
  have hs : Step (fun i => i ≠ n ∨ n = id) w G ρ w' G (setN (setN ρ id none) n (some (b, B.sz))) := by
    refine ⟨by omega, fun j hj ho => hother j (fun he => ho (he ▸ hbo)), fun j hj => ?_, fun _ h => h, fun _ h => .inl h, ?_, ?_, h1, h2, h3⟩
    · by_cases he : j = b
      · rw [he]; exact hshape
      · exact shp_of (hother j he)
    · rintro j ⟨i, s, hj⟩
      simp only [setN] at hj
      split at hj
      · cases hj; exact .inl hbo
      · split at hj
        · cases hj
        · exact .inl ⟨i, s, hj⟩
    · intro i hi
      simp only [setN]
      split
      · rename_i he; rcases hi with hi | hi
        · exact absurd he hi
        · right; rw [he, hi, hb]
      · split
        · exact .inl rfl
        · exact .inr rfl
  refine ⟨h.after hs _ ?_ ?_ ?_ ?_, hs⟩
  · intro i hi
    simp only [updO] at hi
    simp only [setN]
    split at hi
    · cases hi
    · rename_i h4
      rw [if_neg h4]
      split at hi
      · rename_i h5; rw [if_pos h5]
      · rename_i h5; rw [if_neg h5]; exact h.dom i hi
  · intro i B1 A1 hi
    simp only [updO] at hi
    split at hi
    · rename_i he; subst he; cases hi
      refine ⟨hA', .inr ⟨b, by simp [setN, hsz], hbg, ⟨⟨C', o, ⟨hC, ho⟩, fun r row c v hrow hc => ?_⟩, hl⟩⟩⟩
      obtain ⟨cv, hcv, hv⟩ := hr r row c v hrow hc
      refine ⟨cv, hcv, ?_⟩
      by_cases hp : B'.pure = true
      · simp only [hp, if_true] at hv ⊢
        exact hv.mono hs.g (fun b hb => hs.keep b (h.ro b hb) (fun ho => h.owned_not_ro ho hb)) hs.shape (fun _ h => h) (fun _ h => h.elim)
      · simp only [hp] at hv ⊢
        refine hv.step h hs (fun j hj => ?_) hA
        rcases hAn with e | e
        · exact .inr e
        · exact .inl (fun he => e (he ▸ hj))
    · rename_i hne
      split at hi
      · cases hi
      · rename_i hne2
        obtain ⟨hAid, b1, hb1, hg1, hBR⟩ := h.blk i B1 A1 hi
        refine ⟨hAid, .inl ⟨A1, b1, hi, fun _ h => h, fun j hj => ?_, by simp [setN, hne, hne2], hb1, hother b1 ?_, hg1⟩⟩
        · rcases hn with e | ⟨_, e⟩
          · exact .inr e
          · exact .inl (fun he => e i B1 A1 hi (he ▸ hj))
        · rintro rfl; exact hne2 (h.inj i id _ _ _ hb1 hb)
  · intro i j c s t hi hj
    simp only [setN] at hi hj
    split at hi <;> split at hj
    · rename_i e1 e2; rw [e1, e2]
    · rename_i e1 e2; cases hi
      split at hj
      · cases hj
      · rename_i e3; exact absurd (h.inj j id _ _ _ hj hb) e3
    · rename_i e1 e2; cases hj
      split at hi
      · cases hi
      · rename_i e3; exact absurd (h.inj i id _ _ _ hi hb) e3
    · split at hi
      · cases hi
      · split at hj
        · cases hj
        · exact h.inj i j c s t hi hj
  · intro c hc; rw [hsize]; exact h.ro c hc
theorem HRel.rewrite (h : HRel Γ w G ρ H) {id b : Nat} {B : Blk} (hb : ρ id = some (b, B.sz)) (n : Nat) (hn : n = id ∨ (ρ n = none ∧ ∀ i B A, H i = some (B, A) → ¬ A n))
    (B' : Blk) (hsz : B'.sz = B.sz) (C' : Array Value) (ty : TypeId) (A A' : Allow) (hAn : n = id ∨ ¬ A n) (hA : ∀ i, A i → A' i) (hA' : A' n)
    (w' : World) (hC : w'.heap[b]? = some (.cells C' ty (0, 0))) (hother : ∀ j, j ≠ b → w'.heap[j]? = w.heap[j]?) (hsize : w'.heap.size = w.heap.size) (hshape : w'.shape? b = w.shape? b)
    (h1 : w'.os = w.os) (h2 : w'.tape = w.tape) (h3 : w'.output = w.output)
    (hl : ∀ (r : Nat) row, B'.rows[r]? = some row → row.length = B'.sz)
    (hr : ∀ r row c v, B'.rows[r]? = some row → row[c]? = some v → ∃ cv, C'[r * B'.sz + c]? = some cv ∧ V w G (if B'.pure then noNames else ρ) (if B'.pure then noAllow else A) v cv) :
    HRel Γ w' G (setN (setN ρ id none) n (some (b, B.sz))) (updO H A' [(n, some B'), (id, none)]) ∧ Step (fun i => i ≠ n ∨ n = id) w G ρ w' G (setN (setN ρ id none) n (some (b, B.sz))) :=
  h.rewriteO hb n hn B' hsz C' (.cells C' ty (0, 0)) .cells A A' hAn hA hA' w' hC hother hsize (shp_eq hC hshape) h1 h2 h3 hl hr
theorem step_same (S : Allow) (hw : w'.heap = w.heap) (h1 : w'.os = w.os) (h2 : w'.tape = w.tape) (h3 : w'.output = w.output) : Step S w G ρ w' G ρ :=
  ⟨by rw [hw]; exact Nat.le_refl _, fun _ _ _ => by rw [hw], fun _ _ => shp_of (by rw [hw]), fun _ h => h, fun _ h => .inl h, fun _ h => .inl h, fun _ _ => .inr rfl, h1, h2, h3⟩
theorem HRel.same (h : HRel Γ w G ρ H) (hw : w'.heap = w.heap) (h1 : w'.os = w.os) (h2 : w'.tape = w.tape) (h3 : w'.output = w.output) : HRel Γ w' G ρ H :=
  h.after (step_same (fun _ => True) hw h1 h2 h3) H h.dom (fun id B A hH => by
    obtain ⟨hA, b, hb, hg, _⟩ := h.blk id B A hH
    exact ⟨hA, .inl ⟨A, b, hH, fun _ h => h, fun _ _ => trivial, rfl, hb, by rw [hw], hg⟩⟩) h.inj (fun b hb => by rw [hw]; exact h.ro b hb)
theorem HRel.allow (h : HRel Γ w G ρ H) (H' : Owner) (hd : ∀ id, H' id = none → H id = none) (hh : ∀ id B A', H' id = some (B, A') → ∃ A, H id = some (B, A) ∧ ∀ i, A i → A' i) : HRel Γ w G ρ H' :=
  h.after (Step.refl (fun _ => True) _ _ _) H' (fun id hid => h.dom id (hd id hid)) (fun id B A' hH => by
    obtain ⟨A, h1, h2⟩ := hh id B A' hH
    obtain ⟨hA, b, hb, hg, _⟩ := h.blk id B A h1
    exact ⟨h2 id hA, .inl ⟨A, b, h1, h2, fun _ _ => trivial, rfl, hb, rfl, hg⟩⟩) h.inj h.ro
end
end Go.AM
end
section
namespace Go.AM
structure Out where
  v : AVal
  k : Nat
  upd : List (Nat × Option Blk)
  rds : List Nat
def OpOk (P : Program) (Γ : List (Nat × List AVal)) (o : Oper) (ev : Operand → Option AVal) (get : Nat → Option Blk) (k : Nat) (out : Out) : Prop :=
  ∀ w G ρ H (A : Allow) (a : Act), HRel Γ w G ρ H → (∀ i, A i → i < k) → (∀ i, k ≤ i → i < out.k → ρ i = none ∧ ∀ id B A', H id = some (B, A') → ¬ A' i) →
    (∀ id, id ∈ out.rds → ∃ B A', get id = some B ∧ H id = some (B, A') ∧ ∀ i, A' i → A i) →
    (∀ x, x ∈ o.op.operands → ∀ v, ev x = some v → V w G ρ A v (a.eval x)) →
    ∀ (next : Act → World → Prop) (Q : Exit → Act → World → Prop),
      (∀ w' G' ρ' cv, HRel Γ w' G' ρ' (updO H (fun i => A i ∨ (k ≤ i ∧ i < out.k)) out.upd) → V w' G' ρ' (fun i => A i ∨ (k ≤ i ∧ i < out.k)) out.v cv →
        Step (fun i => ¬ (k ≤ i ∧ i < out.k)) w G ρ w' G' ρ' → next (a.put o.dst cv) w') → o.wp P a w next Q
section
variable {P : Program} {Γ : List (Nat × List AVal)} {o : Oper} {ev : Operand → Option AVal} {get : Nat → Option Blk} {k : Nat}
theorem OpOk_quiet {v : AVal} {rds : List Nat}
    (h : ∀ w G ρ H (A : Allow) (a : Act), HRel Γ w G ρ H → (∀ id, id ∈ rds → ∃ B A', get id = some B ∧ H id = some (B, A') ∧ ∀ i, A' i → A i) →
      (∀ x, x ∈ o.op.operands → ∀ v, ev x = some v → V w G ρ A v (a.eval x)) → ∃ cv, (execOp a.eval o).run P w = .ok (.value cv) w ∧ V w G ρ A v cv) :
    OpOk P Γ o ev get k ⟨v, k, [], rds⟩ := by
  intro w G ρ H A a hr hA hf hrd hop next Q hn
  obtain ⟨cv, hrun, hv⟩ := h w G ρ H A a hr hrd hop
  unfold Oper.wp
  rw [hrun]
  refine hn w G ρ cv ?_ (hv.mono (fun _ h => h) (fun _ _ => rfl) (fun _ _ => rfl) (fun _ h => .inl h) (fun _ _ => .inr rfl)) (Step.refl _ _ _ _)
  exact hr
def litOf : AVal → Option Value
  | .lit v => some v
  | .fn f [] => some (.func (.func f) #[] #[])
  | _ => none
def litsOf : List AVal → Option (List Value)
  | [] => some []
  | x :: r => match litOf x, litsOf r with
    | some v, some vs => some (v :: vs)
    | _, _ => none
def toVal : AVal → Option Value
  | .agg cs => (litsOf cs).map fun l => .agg l.toArray
  | v => litOf v
theorem litOf_V {w : World} {G : Nat → Prop} {ρ : Names} {A : Allow} {v : AVal} {cv u : Value} (h : V w G ρ A v cv) (hl : litOf v = some u) : cv = u := by
  cases h with
  | lit => cases hl; rfl
  | fn h1 h2 =>
    rename_i f caps cs
    cases caps with
    | nil => cases hl; have : cs = #[] := Array.eq_empty_of_size_eq_zero (by simpa using h1.symm); rw [this]
    | cons => cases hl
  | _ => cases hl
theorem litsOf_V : ∀ {cs : List AVal} {vs : List Value}, litsOf cs = some vs → vs.length = cs.length ∧ ∀ {w : World} {G : Nat → Prop} {ρ : Names} {A : Allow} {j : Nat} {v : AVal} {cv : Value}, cs[j]? = some v → V w G ρ A v cv → vs[j]? = some cv
  | [], vs, h => by cases h; exact ⟨rfl, fun hj => by simp at hj⟩
  | x :: r, vs, h => by
    simp only [litsOf] at h
    split at h
    · rename_i v vs' h1 h2
      cases h
      obtain ⟨hl, ih⟩ := litsOf_V h2
      refine ⟨by simp [hl], fun {w G ρ A j u cv} hj hv => ?_⟩
      cases j with
      | zero => simp only [List.getElem?_cons_zero, Option.some.injEq] at hj ⊢; subst hj; exact (litOf_V hv h1).symm
      | succ j => simp only [List.getElem?_cons_succ] at hj ⊢; exact ih hj hv
    · cases h
theorem toVal_V {w : World} {G : Nat → Prop} {ρ : Names} {A : Allow} {v : AVal} {cv u : Value} (h : V w G ρ A v cv) (hl : toVal v = some u) : cv = u := by
  cases v with
  | agg cells =>
    simp only [toVal, Option.map_eq_some_iff] at hl
    obtain ⟨vs, h1, rfl⟩ := hl
    cases h with
    | agg h2 h3 =>
      rename_i cs
      obtain ⟨h4, h5⟩ := litsOf_V h1
      congr 1
      apply Array.ext
      · simp [h4, h2]
      · intro i hi1 hi2
        have hc : i < cells.length := by omega
        have h6 := h5 (List.getElem?_eq_getElem hc) (h3 i _ (List.getElem?_eq_getElem hc))
        rw [Array.getD_eq_getD_getElem?, Array.getElem?_eq_getElem hi1] at h6
        rw [List.getElem_toArray]
        have h7 := (List.getElem?_eq_some_iff.1 h6).2
        exact h7.symm
  | _ => exact litOf_V h hl
def pureRun {α : Type} (P : Program) : Sem α → Option α
  | .pure a => some a
  | .program k => pureRun P (k P)
  | .mark _ k => pureRun P k
  | _ => none
theorem pureRun_run {α : Type} (P : Program) (w : World) : ∀ (s : Sem α) (v : α), pureRun P s = some v → s.run P w = .ok v w := by
  intro s
  induction s with
  | pure a => intro v h; cases h; rfl
  | program kk ih => intro v h; exact ih P v h
  | mark m kk ih => intro v h; exact ih v h
  | _ => intro v h; cases h
theorem move_ok {x : Operand} {v : AVal} (ho : o.op = .move x ∨ o.op = .assign x) (hx : ev x = some v) : OpOk P Γ o ev get k ⟨v, k, [], []⟩ := by
  refine OpOk_quiet fun w G ρ H A a hr _ hop => ⟨a.eval x, ?_, hop x ?_ v hx⟩
  · rcases ho with ho | ho <;> simp [execOp, ho]
  · rcases ho with ho | ho <;> simp [ho, Op.operands]
theorem pick_ok {c x y : Operand} {t : Bool} {v : AVal} (ho : o.op = .pick c x y) (hc : ev c = some (.lit (.bool t))) (hx : (if t then ev x else ev y) = some v) : OpOk P Γ o ev get k ⟨v, k, [], []⟩ := by
  refine OpOk_quiet fun w G ρ H A a hr _ hop => ?_
  have h1 : a.eval c = .bool t := V_bool (hop c (by simp [ho, Op.operands]) _ hc)
  cases t with
  | true =>
    simp only [if_true] at hx
    exact ⟨a.eval x, by simp [execOp, ho, h1, asBool], hop x (by simp [ho, Op.operands]) v hx⟩
  | false =>
    exact ⟨a.eval y, by simp [execOp, ho, h1, asBool], hop y (by simp [ho, Op.operands]) v (by simpa using hx)⟩
theorem nilCheck_ok {x : Operand} {v : AVal} (ho : o.op = .nilCheck x) (hx : ev x = some v) (hv : (∃ c, v = .rp c) ∨ (∃ i r c, v = .ptr i r c ∧ (get i).isSome)) :
    OpOk P Γ o ev get k ⟨v, k, [], match v with | .ptr i _ _ => [i] | _ => []⟩ := by
  refine OpOk_quiet fun w G ρ H A a hr hrd hop => ⟨a.eval x, ?_, hop x (by simp [ho, Op.operands]) v hx⟩
  have h1 := hop x (by simp [ho, Op.operands]) v hx
  rcases hv with ⟨c, rfl⟩ | ⟨i, r, c, rfl, _⟩
  · generalize hev : a.eval x = cv at h1 ⊢
    cases h1 with
    | rp => simp [execOp, ho, hev]
  · generalize hev : a.eval x = cv at h1 ⊢
    obtain ⟨B, A', _, hH, _⟩ := hrd i (by simp)
    obtain ⟨_, b, hb, _⟩ := hr.blk i B A' hH
    cases h1 with
    | dang _ hn => rw [hb] at hn; cases hn
    | ptr => simp [execOp, ho, hev]
def fieldOff (P : Program) (s f : Nat) : Option Nat :=
  match P.underlying s with
  | some (.struct fields) => match fields[f]? with
    | some x => match P.info? x.type with
      | some i => if i.size = 0 then none else some x.offset
      | none => none
    | none => none
  | _ => none
theorem fieldOff_run {s f off b o' : Nat} (h : fieldOff P s f = some off) (w : World) : (Instr.fieldAt s (.pointer (some ⟨b, o', none⟩)) f).run P w = .ok (.pointer (some ⟨b, o' + off, none⟩)) w := by
  unfold fieldOff at h
  split at h
  · rename_i fields hu
    split at h
    · rename_i x hx
      split at h
      · rename_i i hi
        split at h
        · cases h
        · rename_i hz
          cases h
          simp [Instr.fieldAt, underlying, hu, hx, Instr.sureAddr, fieldPlace, sizeOf, typeInfo, hi, hz, Addr.add_mid]
      · cases h
    · cases h
  · cases h
theorem fieldAddr_ok {s f : Nat} {x : Operand} {v : AVal} {off : Nat} (ho : o.op = .fieldAddr s x f) (hoff : fieldOff P s f = some off)
    (hx : (∃ cells, ev x = some (.rp cells) ∧ v = .rp (cells.drop off)) ∨ (∃ i r c, ev x = some (.ptr i r c) ∧ (get i).isSome ∧ v = .ptr i r (c + off))) :
    OpOk P Γ o ev get k ⟨v, k, [], match v with | .ptr i _ _ => [i] | _ => []⟩ := by
  refine OpOk_quiet fun w G ρ H A a hr hrd hop => ?_
  rcases hx with ⟨cells, hx, rfl⟩ | ⟨i, r, c, hx, _, rfl⟩
  · have h1 := hop x (by simp [ho, Op.operands]) _ hx
    generalize hev : a.eval x = cv at h1
    cases h1 with
    | rp g hb hc hv =>
      refine ⟨_, by simp only [execOp, ho, hev]; simp [fieldOff_run hoff w]; rfl, .rp (fun j => g (off + j)) hb (fun j v hj => ?_) (fun j v hj => ?_)⟩
      · rw [List.getElem?_drop] at hj; rw [Nat.add_assoc]; exact hc _ v hj
      · rw [List.getElem?_drop] at hj; exact hv _ v hj
  · have h1 := hop x (by simp [ho, Op.operands]) _ hx
    obtain ⟨B, A', _, hH, _⟩ := hrd i (by simp)
    obtain ⟨_, b, hb, _⟩ := hr.blk i B A' hH
    generalize hev : a.eval x = cv at h1
    cases h1 with
    | dang _ hn => rw [hb] at hn; cases hn
    | ptr ha hρ hsh =>
      refine ⟨_, by simp only [execOp, ho, hev]; simp [fieldOff_run hoff w]; rfl, ?_⟩
      rw [Nat.add_assoc]
      exact .ptr ha hρ hsh
end
end Go.AM
end
section
namespace Go.AM
def tsz (P : Program) (t : TypeId) : Option Nat := (P.info? t).map (·.size)
def tagg (P : Program) (t : TypeId) : Option Bool :=
  match P.underlying t with
  | some d => some d.isRow
  | none => none
def esz (P : Program) (t : TypeId) : Option Nat :=
  match P.underlying t with
  | some (.slice e) => tsz P e
  | _ => none
def arr (P : Program) (t : TypeId) : Option (Nat × Nat) :=
  match P.underlying t with
  | some (.array n e) => (tsz P e).map fun s => (n, s)
  | _ => none
section
variable {P : Program} {Γ : List (Nat × List AVal)} {o : Oper} {ev : Operand → Option AVal} {get : Nat → Option Blk} {k : Nat}
theorem esz_spec {t s : Nat} (h : esz P t = some s) : ∃ e i, P.underlying t = some (.slice e) ∧ P.info? e = some i ∧ i.size = s := by
  unfold esz at h
  split at h
  · rename_i e he
    simp only [tsz, Option.map_eq_some_iff] at h
    obtain ⟨i, hi, hs⟩ := h
    exact ⟨e, i, he, hi, hs⟩
  · cases h
theorem arr_spec {t n s : Nat} (h : arr P t = some (n, s)) : ∃ e i, P.underlying t = some (.array n e) ∧ P.info? e = some i ∧ i.size = s := by
  unfold arr at h
  split at h
  · rename_i m e he
    simp only [tsz, Option.map_map, Option.map_eq_some_iff] at h
    obtain ⟨i, hi, hs⟩ := h
    cases hs
    exact ⟨e, i, he, hi, rfl⟩
  · cases h
theorem run_indexAt_slice {t s : Nat} (h : esz P t = some s) (b off n cap : Nat) (kk : IntKind) (i : Int) (h0 : 0 ≤ i) (h1 : i < n) (w : World) :
    (Instr.indexAt t (.slice (some ⟨b, off, none⟩) n cap) (.int kk i)).run P w = .ok (.pointer (some ⟨b, off + i.toNat * s, none⟩)) w := by
  obtain ⟨e, inf, hu, hi, rfl⟩ := esz_spec h
  simp [Instr.indexAt, asIntOf, underlying, hu, h0, h1, sizeOf, typeInfo, hi, Addr.add_mid]
theorem run_indexAt_array {t m s : Nat} (h : arr P t = some (m, s)) (b off : Nat) (kk : IntKind) (i : Int) (h0 : 0 ≤ i) (h1 : i < m) (w : World) :
    (Instr.indexAt t (.pointer (some ⟨b, off, none⟩)) (.int kk i)).run P w = .ok (.pointer (some ⟨b, off + i.toNat * s, none⟩)) w := by
  obtain ⟨e, inf, hu, hi, rfl⟩ := arr_spec h
  simp [Instr.indexAt, asIntOf, underlying, hu, h0, h1, sizeOf, typeInfo, hi, Addr.add_mid, Instr.sureAddr]
theorem index_rd_ok {t s n : Nat} {x y : Operand} {f : Nat → List AVal} {kk : IntKind} {i : Int} (ho : o.op = .indexAddr t x y) (hs : esz P t = some s) (hx : ev x = some (.rd s n f)) (hy : ev y = some (.lit (.int kk i)))
    (h0 : 0 ≤ i) (h1 : i < n) : OpOk P Γ o ev get k ⟨.rp (f i.toNat), k, [], []⟩ := by
  refine OpOk_quiet fun w G ρ H A a hr _ hop => ?_
  have hvx := hop x (by simp [ho, Op.operands]) _ hx
  have hvy := V_bool (hop y (by simp [ho, Op.operands]) _ hy)
  generalize hev : a.eval x = cv at hvx
  cases hvx with
  | rd0 => omega
  | rd g hb hcap hn hl hc hv =>
    refine ⟨_, by simp only [execOp, ho, hev, hvy]; simp [run_indexAt_slice hs _ _ _ _ kk i h0 h1 w], .rp (fun j => g i.toNat j) hb (fun j v hj => hc i.toNat j v (by omega) hj) (fun j v hj => hv i.toNat j v (by omega) hj)⟩
theorem index_sl_ok {t s n id r : Nat} {x y : Operand} {B : Blk} {kk : IntKind} {i : Int} (ho : o.op = .indexAddr t x y) (hs : esz P t = some s) (hx : ev x = some (.sl id r n)) (hy : ev y = some (.lit (.int kk i)))
    (hB : get id = some B) (hsz : B.sz = s) (h0 : 0 ≤ i) (h1 : i < n) : OpOk P Γ o ev get k ⟨.ptr id (r + i.toNat) 0, k, [], [id]⟩ := by
  refine OpOk_quiet fun w G ρ H A a hr hrd hop => ?_
  have hvx := hop x (by simp [ho, Op.operands]) _ hx
  have hvy := V_bool (hop y (by simp [ho, Op.operands]) _ hy)
  obtain ⟨B', A', h2, hH, _⟩ := hrd id (by simp)
  rw [hB] at h2; cases h2
  obtain ⟨_, b, hb, _⟩ := hr.blk id B A' hH
  generalize hev : a.eval x = cv at hvx
  cases hvx with
  | dangs _ hn => rw [hb] at hn; cases hn
  | sl0 => omega
  | sl ha hρ hsh hm hn hc hoff =>
    rw [hb] at hρ; cases hρ
    rename_i cap off
    have hoff' : off = r * B.sz := hoff.resolve_left (by omega)
    subst hoff'
    refine ⟨_, by simp only [execOp, ho, hev, hvy]; simp [run_indexAt_slice hs _ _ _ _ kk i h0 h1 w]; rfl, ?_⟩
    have e : r * B.sz + i.toNat * s = (r + i.toNat) * B.sz + 0 := by rw [hsz, Nat.add_mul, Nat.add_zero]
    rw [e]
    exact .ptr ha hb hsh
theorem index_rp_ok {t m s : Nat} {x y : Operand} {cells : List AVal} {kk : IntKind} {i : Int} (ho : o.op = .indexAddr t x y) (hs : arr P t = some (m, s)) (hx : ev x = some (.rp cells)) (hy : ev y = some (.lit (.int kk i)))
    (h0 : 0 ≤ i) (h1 : i < m) : OpOk P Γ o ev get k ⟨.rp (cells.drop (i.toNat * s)), k, [], []⟩ := by
  refine OpOk_quiet fun w G ρ H A a hr _ hop => ?_
  have hvx := hop x (by simp [ho, Op.operands]) _ hx
  have hvy := V_bool (hop y (by simp [ho, Op.operands]) _ hy)
  generalize hev : a.eval x = cv at hvx
  cases hvx with
  | rp g hb hc hv =>
    refine ⟨_, by simp only [execOp, ho, hev, hvy]; simp [run_indexAt_array hs _ _ kk i h0 h1 w]; rfl, .rp (fun j => g (i.toNat * s + j)) hb (fun j v hj => ?_) (fun j v hj => ?_)⟩
    · rw [List.getElem?_drop] at hj; rw [Nat.add_assoc]; exact hc _ v hj
    · rw [List.getElem?_drop] at hj; exact hv _ v hj
theorem index_ptr_ok {t m s id r c : Nat} {x y : Operand} {B : Blk} {kk : IntKind} {i : Int} (ho : o.op = .indexAddr t x y) (hs : arr P t = some (m, s)) (hx : ev x = some (.ptr id r c)) (hy : ev y = some (.lit (.int kk i)))
    (hB : get id = some B) (h0 : 0 ≤ i) (h1 : i < m) : OpOk P Γ o ev get k ⟨if B.sz = s ∧ c = 0 then .ptr id (r + i.toNat) 0 else .ptr id r (c + i.toNat * s), k, [], [id]⟩ := by
  refine OpOk_quiet fun w G ρ H A a hr hrd hop => ?_
  have hvx := hop x (by simp [ho, Op.operands]) _ hx
  have hvy := V_bool (hop y (by simp [ho, Op.operands]) _ hy)
  obtain ⟨B', A', h2, hH, _⟩ := hrd id (by simp)
  rw [hB] at h2; cases h2
  obtain ⟨_, b, hb, _⟩ := hr.blk id B A' hH
  generalize hev : a.eval x = cv at hvx
  cases hvx with
  | dang _ hn => rw [hb] at hn; cases hn
  | ptr ha hρ hsh =>
    rw [hb] at hρ; cases hρ
    refine ⟨_, by simp only [execOp, ho, hev, hvy]; simp [run_indexAt_array hs _ _ kk i h0 h1 w]; rfl, ?_⟩
    split
    · rename_i hc
      have e : r * B.sz + c + i.toNat * s = (r + i.toNat) * B.sz + 0 := by rw [hc.2, ← hc.1, Nat.add_mul]; omega
      rw [e]; exact .ptr ha hb hsh
    · rw [Nat.add_assoc]; exact .ptr ha hb hsh
def rowPart (agg : Bool) (n : Nat) (row : List AVal) (c : Nat) : Option AVal :=
  if agg then (if c + n ≤ row.length then some (.agg ((row.drop c).take n)) else none) else row[c]?
theorem run_load_agg {t n b off : Nat} (ht : tagg P t = some true) (hn : tsz P t = some n) (cs : List Value) (hl : cs.length = n) (w : World) (hc : w.rangeAt b off cs) :
    (Instr.loadAt t (.pointer (some ⟨b, off, none⟩))).run P w = .ok (.agg cs.toArray) w := by
  unfold tagg at ht
  split at ht
  · rename_i d hd
    cases hdr : d.isRow with
    | false => rw [hdr] at ht; cases ht
    | true => exact run_loadAt_mid w b off t cs d hc hd hdr (by rw [hl]; exact hn)
  · cases ht
theorem run_load_one {t b off : Nat} (ht : tagg P t = some false) (u : Value) (w : World) (hc : w.cell? ⟨b, off, none⟩ = some u) :
    (Instr.loadAt t (.pointer (some ⟨b, off, none⟩))).run P w = .ok u w := by
  unfold tagg at ht
  split at ht
  · rename_i d hd
    have hagg : (isAgg t).run P w = .ok false w := by
      unfold isAgg
      rw [Sem.run_bind, run_underlying hd w]
      cases d <;> simp_all
    simp [Instr.loadAt, Instr.sureAddr, loadVar, Sem.run_bind, hagg, hc]
  · cases ht
theorem V_list {w : World} {G : Nat → Prop} {ρ : Names} {A : Allow} (cells : List AVal) (g : Nat → Value) (hv : ∀ (j : Nat) v, cells[j]? = some v → V w G ρ A v (g j)) :
    V w G ρ A (.agg cells) (.agg ((List.range cells.length).map g).toArray) := by
  refine .agg (by simp) fun j v hj => ?_
  have hlt := (List.getElem?_eq_some_iff.1 hj).1
  have : ((List.range cells.length).map g).toArray.getD j undef = g j := by
    rw [Array.getD_eq_getD_getElem?, List.getElem?_toArray, List.getElem?_map, List.getElem?_range hlt]; rfl
  rw [this]
  exact hv j v hj
theorem load_part {t n b off c : Nat} {ag : Bool} {row : List AVal} {v : AVal} {w : World} {G : Nat → Prop} {ρ : Names} {A : Allow} (ht : tagg P t = some ag) (hn : tsz P t = some n) (hp : rowPart ag n row c = some v)
    (g : Nat → Value) (hc : ∀ j u, row[j]? = some u → w.cell? ⟨b, off + j, none⟩ = some (g j)) (hv : ∀ j u, row[j]? = some u → V w G ρ A u (g j)) :
    ∃ cv, (Instr.loadAt t (.pointer (some ⟨b, off + c, none⟩))).run P w = .ok cv w ∧ V w G ρ A v cv := by
  unfold rowPart at hp
  cases ag with
  | true =>
    simp only [if_true] at hp
    split at hp
    · rename_i hle
      cases hp
      have hlen : ((row.drop c).take n).length = n := by simp; omega
      have hsub : ∀ (j : Nat) u, ((row.drop c).take n)[j]? = some u → row[c + j]? = some u := fun j u hj => by
        rw [List.getElem?_take] at hj
        split at hj
        · rw [List.getElem?_drop] at hj; exact hj
        · cases hj
      have hV := V_list (w := w) (G := G) (ρ := ρ) (A := A) ((row.drop c).take n) (fun j => g (c + j)) (fun j u hj => hv _ u (hsub j u hj))
      refine ⟨_, run_load_agg ht hn ((List.range ((row.drop c).take n).length).map fun j => g (c + j)) (by simpa using hlen) w ?_, hV⟩
      intro j u hj
      rw [List.getElem?_map] at hj
      simp only [Option.map_eq_some_iff] at hj
      obtain ⟨i, hi, rfl⟩ := hj
      have hi' := List.getElem?_eq_some_iff.1 hi
      obtain ⟨hlt, he⟩ := hi'
      simp at he; subst he
      have hlt' : j < ((row.drop c).take n).length := by simpa using hlt
      rw [Nat.add_assoc]
      exact hc (c + j) _ (hsub j _ (List.getElem?_eq_getElem hlt'))
    · cases hp
  | false =>
    simp only [Bool.false_eq_true, if_false] at hp
    exact ⟨g c, run_load_one ht _ w (hc c v hp), hv c v hp⟩
theorem load_rp_ok {t n : Nat} {x : Operand} {cells : List AVal} {ag : Bool} {v : AVal} (ho : o.op = .load t x) (ht : tagg P t = some ag) (hn : tsz P t = some n) (hx : ev x = some (.rp cells))
    (hp : rowPart ag n cells 0 = some v) : OpOk P Γ o ev get k ⟨v, k, [], []⟩ := by
  refine OpOk_quiet fun w G ρ H A a hr _ hop => ?_
  have hvx := hop x (by simp [ho, Op.operands]) _ hx
  generalize hev : a.eval x = cv at hvx
  cases hvx with
  | rp g hb hc hv =>
    obtain ⟨cv, hrun, hV⟩ := load_part (P := P) (G := G) (ρ := noNames) (A := noAllow) ht hn hp g hc hv
    exact ⟨cv, by simp only [execOp, ho, hev]; simp only [Nat.add_zero] at hrun; simp [hrun], hV.weaken⟩
theorem load_ptr_ok {t n id r c : Nat} {x : Operand} {B : Blk} {row : List AVal} {ag : Bool} {v : AVal} (ho : o.op = .load t x) (ht : tagg P t = some ag) (hn : tsz P t = some n) (hx : ev x = some (.ptr id r c))
    (hB : get id = some B) (hrow : B.rows[r]? = some row) (hp : rowPart ag n row c = some v) : OpOk P Γ o ev get k ⟨v, k, [], [id]⟩ := by
  refine OpOk_quiet fun w G ρ H A a hr hrd hop => ?_
  have hvx := hop x (by simp [ho, Op.operands]) _ hx
  obtain ⟨B', A', h2, hH, hAA⟩ := hrd id (by simp)
  rw [hB] at h2; cases h2
  obtain ⟨_, b, hb, _, hBR⟩ := hr.blk id B A' hH
  generalize hev : a.eval x = cv at hvx
  cases hvx with
  | dang _ hn => rw [hb] at hn; cases hn
  | ptr ha hρ hsh =>
    rw [hb] at hρ; cases hρ
    obtain ⟨⟨C, ty, hC, hrows⟩, hlen⟩ := hBR.old hsh
    have hcell : ∀ j u, row[j]? = some u → w.cell? ⟨b, r * B.sz + j, none⟩ = some (C.getD (r * B.sz + j) undef) := fun j u hj => by
      obtain ⟨cv, h3, _⟩ := hrows r row j u hrow hj
      rw [cell_of_row w b _ C ty (0, 0) hC, h3, Array.getD_eq_getD_getElem?, h3]; rfl
    have hval : ∀ j u, row[j]? = some u → V w G ρ A u (C.getD (r * B.sz + j) undef) := fun j u hj => by
      obtain ⟨cv, h3, h4⟩ := hrows r row j u hrow hj
      rw [Array.getD_eq_getD_getElem?, h3]
      by_cases hp : B.pure = true
      · simp only [hp, if_true] at h4; exact h4.weaken
      · simp only [hp] at h4
        exact h4.mono (fun _ h => h) (fun _ _ => rfl) (fun _ _ => rfl) hAA (fun _ _ => .inr rfl)
    obtain ⟨cv, hrun, hV⟩ := load_part (P := P) ht hn hp (fun j => C.getD (r * B.sz + j) undef) hcell hval
    exact ⟨cv, by simp only [execOp, ho, hev]; simp [hrun], hV⟩
def isSliceT (P : Program) (t : TypeId) : Bool := match P.underlying t with | some (.slice _) => true | _ => false
theorem len_ok {t : Nat} {x : Operand} {v : AVal} {n : Nat} {ty : Array TypeId} (ho : o.op = .call { callee := .builtin .len, args := #[x], argTypes := ty }) (hty : ty[0]? = some t) (ht : isSliceT P t = true)
    (hx : ev x = some v) (hv : (∃ s f, v = .rd s n f) ∨ (∃ id r, v = .sl id r n ∧ (get id).isSome)) :
    OpOk P Γ o ev get k ⟨.lit (.int .i64 n), k, [], match v with | .sl id _ _ => [id] | _ => []⟩ := by
  refine OpOk_quiet fun w G ρ H A a hr hrd hop => ?_
  have hvx := hop x (by simp [ho, Op.operands, Call.operands]) _ hx
  unfold isSliceT at ht
  have hsl : ∃ p m c, a.eval x = .slice p m c ∧ m = n := by
    generalize hev : a.eval x = cv at hvx
    rcases hv with ⟨s, f, rfl⟩ | ⟨id, r, rfl, _⟩
    · cases hvx with
      | rd0 => exact ⟨_, _, _, rfl, rfl⟩
      | rd => exact ⟨_, _, _, rfl, rfl⟩
    · obtain ⟨B', A', h2, hH, _⟩ := hrd id (by simp)
      obtain ⟨_, b, hb, _⟩ := hr.blk id B' A' hH
      cases hvx with
      | dangs _ hn => rw [hb] at hn; cases hn
      | sl => exact ⟨_, _, _, rfl, rfl⟩
      | sl0 => exact ⟨_, _, _, rfl, rfl⟩
  obtain ⟨p, m, c, hev, rfl⟩ := hsl
  split at ht
  · rename_i e hu
    refine ⟨.int .i64 m, ?_, .lit⟩
    simp [execOp, ho, resolve, invoke, builtin, Builtin.len_, hty, hev, underlying, hu, goInt]
  · cases ht
theorem extract_ok {x : Operand} {i : Nat} {vs : List AVal} {v : AVal} (ho : o.op = .extract x i) (hx : ev x = some (.tup vs)) (hv : vs[i]? = some v) : OpOk P Γ o ev get k ⟨v, k, [], []⟩ := by
  refine OpOk_quiet fun w G ρ H A a hr _ hop => ?_
  have hvx := hop x (by simp [ho, Op.operands]) _ hx
  generalize hev : a.eval x = cv at hvx
  cases hvx with
  | tup hl hvs =>
    rename_i cs
    have hlt := (List.getElem?_eq_some_iff.1 hv).1
    have h2 := hvs i v hv
    obtain ⟨u, hg, hu⟩ : ∃ u, cs[i]? = some u ∧ cs.getD i undef = u := ⟨cs[i]'(by omega), Array.getElem?_eq_getElem (by omega), by rw [Array.getD_eq_getD_getElem?, Array.getElem?_eq_getElem (by omega)]; rfl⟩
    rw [hu] at h2
    exact ⟨u, by simp [execOp, ho, hev, Instr.extract, hg], h2⟩
def fieldAt (P : Program) (s f : Nat) : Option (Nat × Nat × Bool) :=
  match P.underlying s with
  | some (.struct fields) => match fields[f]? with
    | some x => match tagg P x.type, tsz P x.type with
      | some ag, some n => some (x.offset, n, ag)
      | _, _ => none
    | none => none
  | _ => none
theorem run_part {t n : Nat} {ag : Bool} (ht : tagg P t = some ag) (hn : tsz P t = some n) (cells : List AVal) (off : Nat) (v : AVal) (hp : rowPart ag n cells off = some v) (cs : Array Value) (hl : cells.length = cs.size)
    {w : World} {G : Nat → Prop} {ρ : Names} {A : Allow} (hv : ∀ (j : Nat) u, cells[j]? = some u → V w G ρ A u (cs.getD j undef)) : ∃ cv, (part t cs off).run P w = .ok cv w ∧ V w G ρ A v cv := by
  unfold tagg at ht
  split at ht
  · rename_i d hd
    have hagg : (isAgg t).run P w = .ok d.isRow w := by
      unfold isAgg
      rw [Sem.run_bind, run_underlying hd w]
      cases d <;> simp_all
    cases ht
    simp only [tsz, Option.map_eq_some_iff] at hn
    obtain ⟨inf, hinf, rfl⟩ := hn
    unfold rowPart at hp
    cases hrow : d.isRow with
    | true =>
      simp only [hrow, if_true] at hp
      split at hp
      · rename_i hle
        cases hp
        refine ⟨.agg (cs.extract off (off + inf.size)), by simp [part, hagg, hrow, sizeOf, typeInfo, hinf], .agg (by simp; omega) fun j u hj => ?_⟩
        rw [List.getElem?_take] at hj
        split at hj
        · rename_i hlt
          rw [List.getElem?_drop] at hj
          have h2 := hv _ u hj
          have hlt2 := (List.getElem?_eq_some_iff.1 hj).1
          have e : (cs.extract off (off + inf.size)).getD j undef = cs.getD (off + j) undef := by
            rw [Array.getD_eq_getD_getElem?, Array.getD_eq_getD_getElem?, Array.getElem?_extract_of_lt (by omega), Array.getElem?_eq_getElem (by omega)]
          rw [e]; exact h2
        · cases hj
      · cases hp
    | false =>
      simp only [hrow, Bool.false_eq_true, if_false] at hp
      have hlt := (List.getElem?_eq_some_iff.1 hp).1
      obtain ⟨u, hg, hu⟩ : ∃ u, cs[off]? = some u ∧ cs.getD off undef = u := ⟨cs[off]'(by omega), Array.getElem?_eq_getElem (by omega), by rw [Array.getD_eq_getD_getElem?, Array.getElem?_eq_getElem (by omega)]; rfl⟩
      have h2 := hv off v hp
      rw [hu] at h2
      exact ⟨u, by simp [part, hagg, hrow, hg], h2⟩
  · cases ht
theorem field_ok {s f off n : Nat} {ag : Bool} {x : Operand} {cells : List AVal} {v : AVal} (ho : o.op = .field s x f) (hf : fieldAt P s f = some (off, n, ag)) (hx : ev x = some (.agg cells))
    (hp : rowPart ag n cells off = some v) : OpOk P Γ o ev get k ⟨v, k, [], []⟩ := by
  refine OpOk_quiet fun w G ρ H A a hr _ hop => ?_
  have hvx := hop x (by simp [ho, Op.operands]) _ hx
  generalize hev : a.eval x = cv at hvx
  unfold fieldAt at hf
  split at hf
  · rename_i fields hu
    split at hf
    · rename_i fl hfl
      split at hf
      · rename_i ag' n' h1 h2
        cases hf
        cases hvx with
        | agg hl hvs =>
          obtain ⟨cv, hrun, hV⟩ := run_part h1 h2 cells _ v hp _ hl hvs
          exact ⟨cv, by simp [execOp, ho, hev, Instr.field, underlying, hu, hfl, asAgg, hrun], hV⟩
      · cases hf
    · cases hf
  · cases hf
theorem index_agg_ok {t m s : Nat} {ag : Bool} {x y : Operand} {cells : List AVal} {v : AVal} {kk : IntKind} {i : Int} {e : TypeId} (ho : o.op = .index t x y) (hu : P.underlying t = some (.array m e)) (ht : tagg P e = some ag) (hs : tsz P e = some s)
    (hx : ev x = some (.agg cells)) (hy : ev y = some (.lit (.int kk i))) (h0 : 0 ≤ i) (h1 : i < m) (hp : rowPart ag s cells (i.toNat * s) = some v) : OpOk P Γ o ev get k ⟨v, k, [], []⟩ := by
  refine OpOk_quiet fun w G ρ H A a hr _ hop => ?_
  have hvx := hop x (by simp [ho, Op.operands]) _ hx
  have hvy := V_bool (hop y (by simp [ho, Op.operands]) _ hy)
  generalize hev : a.eval x = cv at hvx
  cases hvx with
  | agg hl hvs =>
    obtain ⟨cv, hrun, hV⟩ := run_part ht hs cells _ v hp _ hl hvs
    simp only [tsz, Option.map_eq_some_iff] at hs
    obtain ⟨inf, hinf, rfl⟩ := hs
    exact ⟨cv, by simp [execOp, ho, hev, hvy, Instr.index, asIntOf, underlying, hu, h0, h1, sizeOf, typeInfo, hinf, hrun], hV⟩
theorem makeFunc_ok {f : FuncId} {caps : Array Operand} {vs : List AVal} (ho : o.op = .makeFunc (.func f) #[] caps) (hl : vs.length = caps.size) (hc : ∀ (j : Nat) x v, caps[j]? = some x → vs[j]? = some v → ev x = some v) :
    OpOk P Γ o ev get k ⟨.fn f vs, k, [], []⟩ := by
  refine OpOk_quiet fun w G ρ H A a hr _ hop => ⟨.func (.func f) #[] (caps.map a.eval), by simp [execOp, ho, Instr.makeFunc], .fn (by simpa using hl) fun j v hj => ?_⟩
  have hlt := (List.getElem?_eq_some_iff.1 hj).1
  have hx : caps[j]? = some caps[j] := Array.getElem?_eq_getElem (by omega)
  have e : (caps.map a.eval).getD j undef = a.eval caps[j] := by rw [Array.getD_eq_getD_getElem?, Array.getElem?_map, hx]; rfl
  rw [e]
  exact hop _ (by simp [ho, Op.operands, Array.mem_of_getElem? hx]) v (hc j _ v hx hj)
end
end Go.AM
end
