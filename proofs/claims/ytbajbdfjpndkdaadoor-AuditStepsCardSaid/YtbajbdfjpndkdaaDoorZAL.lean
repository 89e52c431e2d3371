import Derived.Test.YtbajbdfjpndkdaaDoorZAK
import Derived.Shelf.SlGeneric
import Derived.Shelf.SlLaysF0
import Derived.Ground.SlsfProg
import Derived.Test.YtbajbdfjpndkdaaDoorProg
import Derived.Shelf.SlSortCmp.WholeK
import Derived.WalkKit
import Derived.KernelRfl
import Derived.Shelf.SlSortCmp.NoneTotal

section
set_option linter.unusedVariables false
set_option linter.unusedSimpArgs false
namespace Go.Proofs.T
open Go Go.AM Go.Proofs
set_option linter.unusedSimpArgs false
set_option linter.unusedVariables false
theorem iff1_nil {b : Bool} {f : Flt} : iff1 b f = [] ↔ b = false := by cases b <;> simp [iff1]
theorem shapeA_eq (s : St) : shapeA s = shapesL s := by
  unfold shapeA shapesL iff1
  by_cases h1 : (s.nk : Int) = s.cpus <;> by_cases h2 : (s.nu : Int) = s.cpus <;> by_cases h3 : s.ns = s.ng <;> simp [h1, h2, h3] <;> omega
end Go.Proofs.T
end

section
set_option linter.unusedVariables false
set_option linter.unusedSimpArgs false
namespace Go.Proofs
open Go.Shelf
def Tryd.sortF_ren : Go.Shelf.Ren := ⟨fun | 6 => 46 | 15 => 64 | 14 => 63 | 28 => 80 | 29 => 81 | 20 => 72 | 21 => 73 | 22 => 74 | 23 => 75 | 24 => 76 | 25 => 77 | 26 => 78 | 27 => 79 | 46 => 84 | 47 => 85 | 48 => 86 | 49 => 87 | 50 => 88 | 57 => 94 | n => n, fun | 22 => 36 | 24 => 60 | 25 => 89 | 3 => 3 | 39 => 109 | 0 => 0 | 53 => 44 | 55 => 22 | 4 => 4 | 46 => 116 | 45 => 115 | 50 => 120 | 5 => 5 | 9 => 9 | 66 => 128 | 70 => 132 | 76 => 139 | 77 => 140 | n => n, fun | n => n⟩
theorem Tryd.sortF : Go.Proofs.SlLaysF0.n6 Tryd.prog Tryd.sortF_ren := {
  mixed := by kernel_rfl
  f6 := ⟨Tryd.f46.name, by decide, Tryd.func46.trans (congrArg some (by kernel_rfl))⟩
  f14 := ⟨Tryd.f63.name, by decide, Tryd.func63.trans (congrArg some (by kernel_rfl))⟩
  f15 := Tryd.func64.trans (congrArg some (by kernel_rfl))
  f20 := ⟨Tryd.f72.name, by decide, Tryd.func72.trans (congrArg some (by kernel_rfl))⟩
  f21 := ⟨Tryd.f73.name, by decide, Tryd.func73.trans (congrArg some (by kernel_rfl))⟩
  f22 := ⟨Tryd.f74.name, by decide, Tryd.func74.trans (congrArg some (by kernel_rfl))⟩
  f23 := ⟨Tryd.f75.name, by decide, Tryd.func75.trans (congrArg some (by kernel_rfl))⟩
  f24 := ⟨Tryd.f76.name, by decide, Tryd.func76.trans (congrArg some (by kernel_rfl))⟩
  f25 := ⟨Tryd.f77.name, by decide, Tryd.func77.trans (congrArg some (by kernel_rfl))⟩
  f26 := ⟨Tryd.f78.name, by decide, Tryd.func78.trans (congrArg some (by kernel_rfl))⟩
  f27 := ⟨Tryd.f79.name, by decide, Tryd.func79.trans (congrArg some (by kernel_rfl))⟩
  f28 := Tryd.func80.trans (congrArg some (by kernel_rfl))
  f29 := Tryd.func81.trans (congrArg some (by kernel_rfl))
  f46 := ⟨Tryd.f84.name, by decide, Tryd.func84.trans (congrArg some (by kernel_rfl))⟩
  f47 := Tryd.func85.trans (congrArg some (by kernel_rfl))
  f48 := Tryd.func86.trans (congrArg some (by kernel_rfl))
  f49 := ⟨Tryd.f87.name, by decide, Tryd.func87.trans (congrArg some (by kernel_rfl))⟩
  f50 := ⟨Tryd.f88.name, by decide, Tryd.func88.trans (congrArg some (by kernel_rfl))⟩
  f57 := ⟨Tryd.f94.name, by decide, Tryd.func94.trans (congrArg some (by kernel_rfl))⟩
  t0 := Tryd.underlying0
  a0 := Tryd.isAgg0
  z0 := Tryd.sizeOf0
  v0 := Tryd.zeroValue0
  t3 := Tryd.underlying3
  a3 := Tryd.isAgg3
  z3 := Tryd.sizeOf3
  v3 := Tryd.zeroValue3
  t4 := Tryd.underlying4
  a4 := Tryd.isAgg4
  z4 := Tryd.sizeOf4
  v4 := Tryd.zeroValue4
  t5 := Tryd.underlying5
  a5 := Tryd.isAgg5
  z5 := Tryd.sizeOf5
  v5 := Tryd.zeroValue5
  t9 := Tryd.underlying9
  a9 := Tryd.isAgg9
  z9 := Tryd.sizeOf9
  v9 := Tryd.zeroValue9
  t22 := Tryd.underlying36
  a22 := Tryd.isAgg36
  z22 := Tryd.sizeOf36
  v22 := Tryd.zeroValue36
  t25 := Tryd.underlying89
  a25 := Tryd.isAgg89
  z25 := Tryd.sizeOf89
  v25 := Tryd.zeroValue89
  t39 := Tryd.underlying109
  a39 := Tryd.isAgg109
  z39 := Tryd.sizeOf109
  v39 := Tryd.zeroValue109
  t45 := Tryd.underlying115
  a45 := Tryd.isAgg115
  z45 := Tryd.sizeOf115
  v45 := Tryd.zeroValue115
  t46 := Tryd.underlying116
  a46 := Tryd.isAgg116
  z46 := Tryd.sizeOf116
  v46 := Tryd.zeroValue116
  t50 := Tryd.underlying120
  a50 := Tryd.isAgg120
  z50 := Tryd.sizeOf120
  v50 := Tryd.zeroValue120
  t53 := Tryd.underlying44
  a53 := Tryd.isAgg44
  z53 := Tryd.sizeOf44
  v53 := Tryd.zeroValue44
  t55 := Tryd.underlying22
  a55 := Tryd.isAgg22
  z55 := Tryd.sizeOf22
  v55 := Tryd.zeroValue22
  t66 := Tryd.underlying128
  a66 := Tryd.isAgg128
  z66 := Tryd.sizeOf128
  v66 := Tryd.zeroValue128
  t70 := Tryd.underlying132
  a70 := Tryd.isAgg132
  z70 := Tryd.sizeOf132
  v70 := Tryd.zeroValue132
  t76 := Tryd.underlying139
  a76 := Tryd.isAgg139
  z76 := Tryd.sizeOf139
  v76 := Tryd.zeroValue139
  t77 := Tryd.underlying140
  a77 := Tryd.isAgg140
  z77 := Tryd.sizeOf140
  v77 := Tryd.zeroValue140 }
end Go.Proofs
end

section
set_option linter.unusedVariables false
set_option linter.unusedSimpArgs false
namespace Go.AM
open Go.Sort Go.Proofs
section
variable {Γ : List (Nat × List AVal)} {w w' : World} {G G' : Nat → Prop} {ρ ρ' : Names} {H : Owner}
theorem step_grow (S : Allow) (os : Array Obj) : Step S w G ρ (grow w os) G ρ :=
  ⟨by rw [size_grow]; omega, fun b hb _ => heap_grow_old w os hb, fun b hb => by unfold World.shape?; rw [heap_grow_old w os hb], fun _ h => h, fun _ h => .inl h, fun _ h => .inl h, fun _ _ => .inr rfl, rfl, rfl, rfl⟩
theorem HRel.grow (h : HRel Γ w G ρ H) (os : Array Obj) : HRel Γ (grow w os) G ρ H :=
  h.after (step_grow (fun _ => True) os) H h.dom (fun id B A hH => by
    obtain ⟨hA, b, hb, hg, _⟩ := h.blk id B A hH
    exact ⟨hA, .inl ⟨A, b, hH, fun _ h => h, fun _ _ => trivial, rfl, hb, heap_grow_old w os (h.owned_lt ⟨id, _, hb⟩), hg⟩⟩) h.inj (fun b hb => by rw [size_grow]; have := h.ro b hb; omega)
theorem HRel.rows {S : Allow} (h : HRel Γ w G ρ H) {id b : Nat} {B B' : Blk} {A : Allow} (hid : H id = some (B, A)) (hb : ρ id = some (b, B.sz)) (hsz : B'.sz = B.sz) {C C' : Array Value} {ty : TypeId} {H' : Owner}
    (hH' : ∀ i, H' i = if i = id then some (B', A) else H i)
    (hC0 : w.heap[b]? = some (.cells C ty (0, 0))) (hC : w'.heap[b]? = some (.cells C' ty (0, 0))) (hcs : C'.size = C.size) (hother : ∀ j, j ≠ b → w'.heap[j]? = w.heap[j]?) (hsize : w'.heap.size = w.heap.size)
    (h1 : w'.os = w.os) (h2 : w'.tape = w.tape) (h3 : w'.output = w.output)
    (hS : ∀ i B A, H i = some (B, A) → ∀ j, A j → S j)
    (hl : ∀ (r : Nat) row, B'.rows[r]? = some row → row.length = B'.sz)
    (hr : ∀ r row c v, B'.rows[r]? = some row → row[c]? = some v → ∃ cv, C'[r * B'.sz + c]? = some cv ∧ V w G noNames noAllow v cv) (hp : B'.pure = true) :
    HRel Γ w' G ρ H' ∧ Step S w G ρ w' G ρ := by
  have hbo : owned ρ b := ⟨id, _, hb⟩
  have hbg := h.owned_not_ro hbo
  have hs : Step S w G ρ w' G ρ := by
    refine ⟨by omega, fun j hj ho => hother j (fun he => ho (he ▸ hbo)), fun j hj => ?_, fun _ h => h, fun _ h => .inl h, fun _ h => .inl h, fun _ _ => .inr rfl, h1, h2, h3⟩
    by_cases he : j = b
    · subst he; unfold World.shape?; rw [hC, hC0]; simp only [hcs]
    · unfold World.shape?; rw [hother j he]
  refine ⟨h.after hs _ ?_ ?_ h.inj (fun c hc => by rw [hsize]; exact h.ro c hc), hs⟩
  · intro i hi
    rw [hH'] at hi
    split at hi
    · cases hi
    · exact h.dom i hi
  · intro i B1 A1 hi
    rw [hH'] at hi
    split at hi
    · rename_i he; subst he; cases hi
      obtain ⟨hA, _⟩ := h.blk i B A hid
      refine ⟨hA, .inr ⟨b, by rw [hsz]; exact hb, hbg, ⟨⟨C', ty, hC, fun r row c v hrow hc => ?_⟩, hl⟩⟩⟩
      obtain ⟨cv, hcv, hv⟩ := hr r row c v hrow hc
      refine ⟨cv, hcv, ?_⟩
      simp only [hp, if_true]
      exact hv.mono hs.g (fun b hb => hs.keep b (h.ro b hb) (fun ho => h.owned_not_ro ho hb)) hs.shape (fun _ h => h) (fun _ h => h.elim)
    · rename_i hne
      obtain ⟨hAid, b1, hb1, hg1, hBR⟩ := h.blk i B1 A1 hi
      exact ⟨hAid, .inl ⟨A1, b1, hi, fun _ h => h, hS i B1 A1 hi, rfl, hb1, hother b1 (by rintro rfl; exact hne (h.inj i id _ _ _ hb1 hb)), hg1⟩⟩
end
end Go.AM
namespace Go.Proofs.T
open Go Go.Proofs Go.Shelf Go.RowKit Go.Lib Go.Sort
def cfI (r a b r' a' b' : Int) : Int := if r = r' then (if a = a' then b - b' else a - a') else r - r'
theorem wrap_i64' {n : Int} (h1 : -9223372036854775808 ≤ n) (h2 : n ≤ 9223372036854775807) : IntKind.i64.wrap n = n := by
  simp [IntKind.wrap, IntKind.bits, IntKind.signed]; omega
set_option maxHeartbeats 2000000 in
theorem closure (r a b r' a' b' : Int) (hr : 0 ≤ r ∧ r < 256) (ha : 0 ≤ a ∧ a < 1000000) (hb : 0 ≤ b ∧ b < 1000000) (hr' : 0 ≤ r' ∧ r' < 256) (ha' : 0 ≤ a' ∧ a' < 1000000) (hb' : 0 ≤ b' ∧ b' < 1000000) (W : World) :
    Calls Tryd.prog 47 #[.agg #[.int .u8 r, .int .i64 a, .int .i64 b], .agg #[.int .u8 r', .int .i64 a', .int .i64 b']] W fun e w' => e = .returned (.int .i64 (cfI r a b r' a' b')) ∧ ∃ q os', w' = grow (W.drewN q) os' := by
  by_cases h1 : r = r'
  · by_cases h2 : a = a'
    · have e : cfI r a b r' a' b' = b - b' := by simp [cfI, h1, h2]
      rw [e]; subst h1 h2; clear e
      go_enter Tryd.func47, Tryd.ntmps47
      go_wp2

      go_ret
      exact ⟨rfl, 0, _, by rw [alloc_eq_grow, alloc_eq_grow, grow_grow]; rfl⟩
    · have e : cfI r a b r' a' b' = a - a' := by simp [cfI, h1, h2]
      rw [e]; subst h1; clear e
      go_enter Tryd.func47, Tryd.ntmps47
      go_wp2

      go_ret
      exact ⟨rfl, 0, _, by rw [alloc_eq_grow, alloc_eq_grow, grow_grow]; rfl⟩
  · have e : cfI r a b r' a' b' = r - r' := by simp [cfI, h1]
    rw [e]; clear e
    go_enter Tryd.func47, Tryd.ntmps47
    go_wp2

    go_ret
    exact ⟨rfl, 0, _, by rw [alloc_eq_grow, alloc_eq_grow, grow_grow]; rfl⟩
end Go.Proofs.T
namespace Go.Proofs.T
open Go Go.AM Go.Proofs Go.Shelf Go.RowKit Go.Lib Go.Sort
set_option linter.unusedSimpArgs false
set_option linter.unusedVariables false
def Flt.ok (f : Flt) : Prop := (0 ≤ f.r ∧ f.r < 256) ∧ (0 ≤ f.a ∧ f.a < 1000000) ∧ (0 ≤ f.b ∧ f.b < 1000000)
structure BF where
  f : Flt
  h : f.ok
instance : Inhabited BF := ⟨⟨⟨0, 0, 0⟩, by unfold Flt.ok; simp⟩⟩
def encF (x : BF) : List Value := [.int .u8 x.f.r, .int .i64 x.f.a, .int .i64 x.f.b]
def cfF (x y : Flt) : Int := cfI x.r x.a x.b y.r y.a y.b
def cfB (x y : BF) : Int := cfF x.f y.f
theorem ltB_iff (x y : BF) : ltOf cfB x y = true ↔ cfF x.f y.f < 0 := ⟨fun h => of_decide_eq_true h, fun h => decide_eq_true h⟩
theorem ltB_false (x y : BF) : ltOf cfB x y = false ↔ 0 ≤ cfF x.f y.f := ⟨fun h => Int.not_lt.1 (of_decide_eq_false h), fun h => decide_eq_false (Int.not_lt.2 h)⟩
theorem cfF_lt (x y : Flt) : cfF x y < 0 ↔ (x.r < y.r ∨ (x.r = y.r ∧ (x.a < y.a ∨ (x.a = y.a ∧ x.b < y.b)))) := by
  unfold cfF cfI
  split
  · split <;> omega
  · omega
theorem cfF_ge (x y : Flt) : 0 ≤ cfF x y ↔ ¬ (x.r < y.r ∨ (x.r = y.r ∧ (x.a < y.a ∨ (x.a = y.a ∧ x.b < y.b)))) := by
  rw [← cfF_lt]; omega
theorem swoB : SWO (ltOf cfB) where
  irrefl x := by rw [ltB_false, cfF_ge]; omega
  trans x y z h1 h2 := by rw [ltB_iff, cfF_lt] at *; omega
  ntrans x y z h1 h2 := by rw [ltB_false, cfF_ge] at *; omega
theorem totF (x y : Flt) (h1 : 0 ≤ cfF x y) (h2 : 0 ≤ cfF y x) : x = y := by
  rw [cfF_ge] at h1 h2
  cases x; cases y
  simp only [Flt.mk.injEq] at *
  omega
theorem cmpB (blk off size : Nat) (w : World) : CmpLays Tryd.prog 47 #[] encF 3 cfB blk off size w := fun _ _ _ _ x y =>
  closure x.f.r x.f.a x.f.b y.f.r y.f.a y.f.b x.h.1 x.h.2.1 x.h.2.2 y.h.1 y.h.2.1 y.h.2.2 _
def toB (l : List Flt) (hb : ∀ f ∈ l, f.ok) : Array BF := (l.pmap (fun f h => (⟨f, h⟩ : BF)) hb).toArray
theorem toB_size (l : List Flt) (hb : ∀ f ∈ l, f.ok) : (toB l hb).size = l.length := by simp [toB]
theorem toB_get (l : List Flt) (hb : ∀ f ∈ l, f.ok) (i : Nat) (hi : i < l.length) : ((toB l hb)[i]!).f = l[i] := by
  rw [getElem!_pos (toB l hb) i (by rw [toB_size]; exact hi)]
  simp [toB]
theorem getBang_row (x : BF) (c : Nat) (v : AVal) (h : (Flt.row x.f)[c]? = some v) : v = .lit ((encF x)[c]!) := by
  match c with
  | 0 => simp [Flt.row] at h; simp [encF, h]
  | 1 => simp [Flt.row] at h; simp [encF, h]
  | 2 => simp [Flt.row] at h; simp [encF, h]
  | c + 3 => simp [Flt.row] at h
theorem row_some (x : BF) (c : Nat) (hc : c < 3) : (Flt.row x.f)[c]? = some (.lit ((encF x)[c]!)) := by
  match c with
  | 0 => rfl
  | 1 => rfl
  | 2 => rfl
theorem holdsF {w : World} {G : Nat → Prop} {b : Nat} {C : Array Value} {ty : TypeId} (l : List Flt) (hb : ∀ f ∈ l, f.ok) (hC : w.heap[b]? = some (.cells C ty (0, 0)))
    (hr : ∀ r row c v, (l.map Flt.row)[r]? = some row → row[c]? = some v → ∃ cv, C[r * 3 + c]? = some cv ∧ V w G noNames noAllow v cv) : HoldsK encF 3 w b 0 (toB l hb) := by
  intro j hj
  rw [size_flatK, toB_size] at hj
  have hq : j / 3 < l.length := by omega
  refine ⟨?_, ?_⟩
  · rw [get_flatK encF 3 _ j (by rw [toB_size]; exact hj)]
    have h1 : (l.map Flt.row)[j / 3]? = some (Flt.row ((toB l hb)[j / 3]!).f) := by
      rw [List.getElem?_map, List.getElem?_eq_getElem hq, toB_get l hb _ hq]; rfl
    obtain ⟨cv, h3, h4⟩ := hr (j / 3) _ (j % 3) _ h1 (row_some _ (j % 3) (Nat.mod_lt _ (by omega)))
    cases h4
    unfold World.cell?
    simp only [hC]
    rw [show j / 3 * 3 + j % 3 = j by omega] at h3
    simp [h3]
  · unfold World.frozen?
    simp [hC]
theorem toB_sorted (l R : List Flt) (hb : ∀ f ∈ l, f.ok) (hR : ∀ f ∈ R, f.ok) (hp : R.Perm l) (hs : R.Pairwise (fun x y => 0 ≤ cfF y x)) (d : Array BF) (h1 : PermIn 0 (toB l hb).size (toB l hb) d) (h2 : SortedIn (ltOf cfB) 0 (toB l hb).size d) : d = toB R hR := by
  have hT : ∀ x y : BF, ltOf cfB x y = false → ltOf cfB y x = false → x = y := fun x y h3 h4 => by
    rw [ltB_false] at h3 h4
    have := totF _ _ h3 h4
    cases x; cases y; cases this; rfl
  have e1 := sorted_unique_holds swoB hT _ _ h1 h2
  have hsz : (toB R hR).size = (toB l hb).size := by rw [toB_size, toB_size, hp.length_eq]
  have hpm : (toB R hR).toList.Perm (toB l hb).toList := by
    simp only [toB]
    have : ∀ (a b : List Flt) (ha : ∀ f ∈ a, f.ok) (hb : ∀ f ∈ b, f.ok), a.Perm b → (a.pmap (fun f h => (⟨f, h⟩ : BF)) ha).Perm (b.pmap (fun f h => (⟨f, h⟩ : BF)) hb) := fun a b ha hb h => h.pmap _
    exact this _ _ _ _ hp
  have h3 : PermIn 0 (toB l hb).size (toB l hb) (toB R hR) := by
    refine ⟨hsz, fun i hi => ?_, ?_⟩
    · rcases hi with hi | hi
      · omega
      · rw [getElem!_neg _ i (by omega), getElem!_neg _ i (by omega)]
    · rw [Array.extract_size, ← hsz, Array.extract_size]; exact hpm
  have h4 : SortedIn (ltOf cfB) 0 (toB l hb).size (toB R hR) := by
    intro i j _ hij hj
    rw [toB_size, ← hp.length_eq] at hj
    rw [ltB_false, toB_get R hR j hj, toB_get R hR i (by omega)]
    exact List.pairwise_iff_getElem.1 hs i j (by omega) hj hij
  exact Array.ext' (e1.trans (sorted_unique_holds swoB hT _ _ h3 h4).symm)
end Go.Proofs.T
namespace Go.Proofs.T
open Go Go.AM Go.Proofs Go.Shelf Go.RowKit Go.Lib Go.Sort
set_option linter.unusedSimpArgs false
set_option linter.unusedVariables false
variable {Γ : List (Nat × List AVal)}
theorem putRow_heap {w : World} {b : Nat} {C : Array Value} {ty : TypeId} (n : Nat) (F : Array Value) (hC : w.heap[b]? = some (.cells C ty (0, 0))) :
    (putRow id (Sort.ahead w n) b 0 F).heap[b]? = some (.cells (putCells id 0 F C) ty (0, 0)) ∧ (∀ j, j ≠ b → (putRow id (Sort.ahead w n) b 0 F).heap[j]? = w.heap[j]?) ∧ (putRow id (Sort.ahead w n) b 0 F).heap.size = w.heap.size := by
  refine ⟨?_, fun j hj => ?_, ?_⟩
  · simp only [putRow, mapBlock, Sort.ahead, Array.getElem?_modify, if_true]; rw [hC]; rfl
  · simp only [putRow, mapBlock, Sort.ahead, Array.getElem?_modify]; rw [if_neg (fun h => hj h.symm)]
  · simp [putRow, mapBlock, Sort.ahead]
theorem putCells_get (F C : Array Value) (j : Nat) (hj : j < F.size) (hC : j < C.size) : (putCells id 0 F C)[j]? = some F[j]! := by
  simp only [putCells, Array.getElem?_mapIdx, Array.getElem?_eq_getElem hC, Option.map_some, Nat.zero_le, Nat.zero_add, hj, and_self, if_true, Nat.sub_zero, id]
theorem sortFunc (k F : Nat) (l R : List Flt) (hb : ∀ f ∈ l, f.ok) (hp : R.Perm l) (hs : R.Pairwise (fun x y => 0 ≤ cfF y x)) (hl : l.length ≤ 100000)
    (hnone : ∀ w, Calls Tryd.prog 46 #[.slice none 0 0, .func (.func 47) #[] #[]] w fun e w' => e = .returned (.tuple #[]) ∧ w' = w) :
    Tr Tryd.prog Γ 46 k [accV F (l.map Flt.row), .fn 47 []] (accH F 3 (l.map Flt.row) []) (fun k1 r1 H1 => k1 = k ∧ r1 = .tup [] ∧ H1 = accH F 3 (R.map Flt.row) []) := by
  intro A hA w G ρ cargs hr hvs
  obtain ⟨hlen, hv⟩ := hvs
  have h0 := hv 0 _ rfl
  have h1 := hv 1 _ rfl
  have hc2 : cargs = #[cargs.getD 0 undef, cargs.getD 1 undef] := by
    have hsz : cargs.size = 2 := hlen.symm
    apply Array.ext
    · simp [hsz]
    · intro i hi1 hi2
      match i with
      | 0 => simp [Array.getD, hsz]
      | 1 => simp [Array.getD, hsz]
      | i + 2 => omega
  obtain ⟨cs, hfn, hcs⟩ : ∃ cs : Array Value, cargs.getD 1 undef = .func (.func 47) #[] cs ∧ cs.size = 0 := by
    generalize cargs.getD 1 undef = x at h1
    cases h1 with
    | fn hl _ => exact ⟨_, rfl, hl.symm⟩
  have hcs' : cs = #[] := Array.eq_empty_of_size_eq_zero hcs
  subst hcs'
  cases l with
  | nil =>
    have hR : R = [] := hp.eq_nil
    subst hR
    have e0 : cargs.getD 0 undef = .slice none 0 0 := by
      generalize cargs.getD 0 undef = x at h0
      cases h0; rfl
    rw [hc2, e0, hfn]
    refine (hnone w).mono ?_
    rintro e w' ⟨rfl, rfl⟩
    refine ⟨.tuple #[], G, ρ, k, .tup [], [], rfl, ⟨rfl, rfl, rfl⟩, Nat.le_refl _, ?_, .tup rfl (fun j v hj => by simp at hj), Step.refl _ _ _ _⟩
    exact ⟨fun id _ => hr.dom id rfl, fun id B A' hid => by simp [ofHeap, AM.look] at hid, hr.inj, hr.ro, hr.glob⟩
  | cons x t =>
    obtain ⟨l, el⟩ : ∃ l, l = x :: t := ⟨_, rfl⟩
    have hne : l.length ≠ 0 := by rw [el]; simp
    have eV : accV F ((x :: t).map Flt.row) = .sl F 0 l.length := by rw [el]; simp [accV]
    have eH : ∀ q : List Flt, q.length ≠ 0 → accH F 3 (q.map Flt.row) [] = [(F, ⟨3, true, q.map Flt.row⟩)] := fun q hq => by
      cases q with
      | nil => simp at hq
      | cons a b => rfl
    rw [eV] at h0
    rw [← el, eH l hne] at hr
    rw [← el] at hb hp hl
    clear eV
    have hRne : R.length ≠ 0 := by rw [hp.length_eq]; exact hne
    rw [eH R hRne]
    have hid : ofHeap [(F, ⟨3, true, l.map Flt.row⟩)] A F = some (⟨3, true, l.map Flt.row⟩, A) := by simp [ofHeap, AM.look]
    obtain ⟨hAF, b, hρ, hgb, ⟨⟨C, ty, hC, hrow⟩, hrl⟩⟩ := hr.blk F _ _ hid
    simp only [if_true] at hrow hρ
    obtain ⟨cap, e0⟩ : ∃ cap, cargs.getD 0 undef = .slice (some ⟨b, 0, none⟩) l.length cap := by
      generalize cargs.getD 0 undef = x at h0
      cases h0 with
      | dangs _ hn => rw [hρ] at hn; cases hn
      | sl _ hs _ _ hnc _ ho =>
        rw [hρ] at hs; cases hs
        rcases ho with ho | ho
        · omega
        · rw [ho, Nat.zero_mul]; exact ⟨_, rfl⟩
    have hRok : ∀ f ∈ R, f.ok := fun f hf => hb f (hp.mem_iff.1 hf)
    have hblt : b < w.heap.size := hr.owned_lt ⟨F, 3, hρ⟩
    have eg : ∀ args w, (callFunc 47 args).run Tryd.prog w = .ok (.enter 47 args) w := enters_of Tryd.func47 (by kernel_rfl) rfl
    have hcon := AnyQ.slices_SortFunc Tryd.sortF 3 Tryd.isAgg60 Tryd.sizeOf60 encF (fun _ => rfl) (fun x v hv => by simp [encF] at hv; rcases hv with rfl | rfl | rfl <;> rfl) cfB swoB 47 #[] b 0 cap (toB l hb) w eg (cmpB _ _ _ _) (holdsF l hb hC hrow) hblt (by rw [toB_size]; omega)
    change Calls Tryd.prog 46 _ _ _ at hcon
    rw [hc2, e0, hfn]
    rw [toB_size] at hcon
    refine hcon.mono ?_
    rintro e w' ⟨rfl, d', n, os, hpm, hso, rfl⟩
    rw [← toB_size l hb] at hpm hso
    have hd := toB_sorted l R hb hRok hp hs d' hpm hso
    subst hd
    have hF : (flatK encF 3 (toB R hRok)).size = l.length * 3 := by rw [size_flatK, toB_size, hp.length_eq]
    obtain ⟨p1, p2, p3⟩ := putRow_heap n (flatK encF 3 (toB R hRok)) hC
    have hrows : ∀ r row c v, (R.map Flt.row)[r]? = some row → row[c]? = some v → ∃ cv, (putCells id 0 (flatK encF 3 (toB R hRok)) C)[r * 3 + c]? = some cv ∧ V w G noNames noAllow v cv := by
      intro r row c v hrw hcv
      have hrlt : r < R.length := by
        by_cases h : r < R.length
        · exact h
        · rw [List.getElem?_eq_none (by simp; omega)] at hrw; cases hrw
      have hrow' : row = Flt.row ((toB R hRok)[r]!).f := by
        rw [List.getElem?_map, List.getElem?_eq_getElem hrlt, Option.map_some, Option.some.injEq] at hrw
        rw [toB_get R hRok r hrlt]; exact hrw.symm
      subst hrow'
      have hc3 : c < 3 := by
        by_cases h : c < 3
        · exact h
        · rw [List.getElem?_eq_none (by simp [Flt.row]; omega)] at hcv; cases hcv
      have hv' := getBang_row _ c v hcv
      have hll : r < l.length := by rw [← hp.length_eq]; exact hrlt
      have hCs : r * 3 + c < C.size := by
        obtain ⟨cv, hcv1, _⟩ := hrow r _ c _ (by rw [List.getElem?_map, List.getElem?_eq_getElem hll]; rfl) (by rw [List.getElem?_eq_getElem (by simp [Flt.row]; omega)])
        by_cases h : r * 3 + c < C.size
        · exact h
        · rw [Array.getElem?_eq_none (by omega)] at hcv1; cases hcv1
      refine ⟨(encF ((toB R hRok)[r]!))[c]!, ?_, by rw [hv']; exact .lit⟩
      rw [putCells_get _ _ _ (by omega) hCs, get_flatK encF 3 _ _ (by rw [toB_size]; omega)]
      rw [show (r * 3 + c) / 3 = r by omega, show (r * 3 + c) % 3 = c by omega]
    have hHF : ∀ i, ofHeap [(F, (⟨3, true, R.map Flt.row⟩ : Blk))] A i = if i = F then some ((⟨3, true, R.map Flt.row⟩ : Blk), A) else ofHeap [(F, (⟨3, true, l.map Flt.row⟩ : Blk))] A i := fun i => by
      by_cases h : i = F
      · subst h; simp [ofHeap, AM.look]
      · have h' : ¬ F = i := fun e => h e.symm
        rw [if_neg h]; simp [ofHeap, AM.look, h']
    obtain ⟨q1, q2⟩ := HRel.rows (S := below k) (H' := ofHeap [(F, ⟨3, true, R.map Flt.row⟩)] A) (B' := ⟨3, true, R.map Flt.row⟩) hr hid hρ rfl hHF hC p1 (by simp [putCells]) p2 p3 rfl rfl rfl
      (fun i B A' hi j hj => by
        have : A' = A := by
          simp only [ofHeap, AM.look] at hi
          split at hi <;> simp at hi
          exact hi.2.symm
        subst this; exact hA j hj)
      (fun r row hrw => by
        rw [List.getElem?_map] at hrw
        cases hR : R[r]? with
        | none => rw [hR] at hrw; cases hrw
        | some f => rw [hR] at hrw; cases hrw; rfl)
      hrows rfl
    refine ⟨.tuple #[], G, ρ, k, .tup [], [(F, ⟨3, true, R.map Flt.row⟩)], rfl, ⟨rfl, rfl, rfl⟩, Nat.le_refl _, ?_, .tup rfl (fun j v hj => by simp at hj), ?_⟩
    · refine (q1.grow os).allow _ ?_ ?_
      · intro i hi
        simp only [ofHeap, Option.map_eq_none_iff] at hi ⊢; exact hi
      · intro i B A' hi
        simp only [ofHeap] at hi ⊢
        cases hlk : AM.look [(F, (⟨3, true, R.map Flt.row⟩ : Blk))] i with
        | none => rw [hlk] at hi; cases hi
        | some B1 => rw [hlk] at hi; cases hi; exact ⟨A, rfl, fun i hi => .inl hi⟩
    · exact q2.trans (step_grow (below k) os) (fun _ h => h)
end Go.Proofs.T
end

section
set_option linter.unusedVariables false
set_option linter.unusedSimpArgs false
namespace Go.Proofs.T
open Go Go.AM Go.Proofs
set_option linter.unusedSimpArgs false
set_option linter.unusedVariables false
set_option maxRecDepth 4000
variable {Γ : List (Nat × List AVal)}
theorem sort_none (w : World) : Calls Tryd.prog 46 #[.slice none 0 0, .func (.func 47) #[] #[]] w fun e w' => e = .returned (.tuple #[]) ∧ w' = w :=
  AnyF.slices_SortFunc_none Tryd.sortF none 0 _ w
theorem sorted (k L F : Nat) (s : St) (l R : List Flt) (hL : L < k) (hF : F < k) (hne : L ≠ F) (hb : ∀ f ∈ l, f.ok) (hp : R.Perm l) (hs : R.Pairwise (fun x y => 0 ≤ cfF y x)) (hl : l.length ≤ 100000) :
    Tr Tryd.prog Γ 27 k [.ptr L 0 0] (LK L F s l) (fun k1 r1 H1 => k1 = k ∧ r1 = accV F (R.map Flt.row) ∧ H1 = LK L F s R) := by
  obtain ⟨a1, a2, a3, a4, a5, a6⟩ := old_name hL
  obtain ⟨b1, b2, b3, b4, b5, b6⟩ := old_name hF
  obtain ⟨c1, c2⟩ := two_names hne
  have hV : accV F (l.map Flt.row) = accV F (R.map Flt.row) := by
    cases l with
    | nil => rw [hp.eq_nil]
    | cons a b =>
      cases R with
      | nil => exact absurd hp.length_eq (by simp)
      | cons c d => simp only [List.map_cons, accV, List.length_cons, List.length_map]; rw [show d.length = b.length by have := hp.length_eq; simpa using this]
  refine Tr_at Tryd.func27 rfl 12 rfl (Nat.le_of_ble_eq_true rfl) (W_upM ?_)
  (repeat' (first | (refine C_seq rfl ?_) | (refine C_block rfl ?_) | (refine C_skip rfl ?_; (try simp -dsimp -implicitDefEqProofs only [go_sem, a1, a2, a3, a4, a5, a6, b1, b2, b3, b4, b5, b6, c1, c2, eq_self, ↓reduceIte])) | (refine C_exit rfl ?_; (try simp -dsimp -implicitDefEqProofs only [go_sem, a1, a2, a3, a4, a5, a6, b1, b2, b3, b4, b5, b6, c1, c2, eq_self, ↓reduceIte])) | (refine C_cond rfl _ rfl (fun ht => ?_) (fun ht => ?_) <;> (try (simp only [nf] at ht)) <;> (try (exfalso; omega))) | ((first | (refine S_reg0 rfl [0,2] rfl rfl (fun K hK => ?_)) | (refine S_drw0 rfl [0,2] rfl (by kernel_rfl) rfl (fun K hK => ?_))); simp -dsimp -implicitDefEqProofs only [go_sem, a1, a2, a3, a4, a5, a6, b1, b2, b3, b4, b5, b6, c1, c2, eq_self, ↓reduceIte]; (repeat' (first | (refine And.intro ?_ ?_) | (refine gs_both (fun hb => ?_) (fun hb => ?_) <;> (have hg := hb; (try simp only [nfb] at hg); simp -dsimp -implicitDefEqProofs only [go_sem, a1, a2, a3, a4, a5, a6, b1, b2, b3, b4, b5, b6, c1, c2, hb, hg, eq_self, ↓reduceIte]; clear hb; (try simp only [nfe] at hg))))); any_goals ((first | (refine hK _ _ _ _ (fun hx => ?_)) | (refine hK _ _ _ _ (drawOk_names (fun i => i - k) (by simp only [List.map_cons, List.map_nil, shG, a1, a2, a3, a4, a5, a6, b1, b2, b3, b4, b5, b6, c1, c2, ↓reduceIte, Nat.add_sub_cancel_left, Nat.sub_self]; rfl) (by decide +kernel) (by simp -dsimp -implicitDefEqProofs only [go_sem, a1, a2, a3, a4, a5, a6, b1, b2, b3, b4, b5, b6, c1, c2, eq_self, ↓reduceIte])) (fun hx => ?_)) | (refine hK _ _ _ _ (drawOk_of (by kernel_rfl) (by simp -dsimp -implicitDefEqProofs only [go_sem, a1, a2, a3, a4, a5, a6, b1, b2, b3, b4, b5, b6, c1, c2, eq_self, ↓reduceIte])) (fun hx => ?_))); clear hx hK; simp -dsimp -implicitDefEqProofs only [go_sem, a1, a2, a3, a4, a5, a6, b1, b2, b3, b4, b5, b6, c1, c2, eq_self, ↓reduceIte]; (try simp (disch := omega) only [wrap_i64, wrap_u64, wrap_u32, wrap_u8]))) | omega))
  refine S_reg rfl [0,2] [.gen (.tup []) k (accH F 3 (l.map Flt.row) []) (accH F 3 (R.map Flt.row) [])] rfl (fun K hK => ?_); simp -dsimp -implicitDefEqProofs only [go_sem, a1, a2, a3, a4, a5, a6, b1, b2, b3, b4, b5, b6, c1, c2, eq_self, ↓reduceIte]; (repeat' (first | (refine And.intro ?_ ?_) | (refine gs_both (fun hb => ?_) (fun hb => ?_) <;> (have hg := hb; (try simp only [nfb] at hg); simp -dsimp -implicitDefEqProofs only [go_sem, a1, a2, a3, a4, a5, a6, b1, b2, b3, b4, b5, b6, c1, c2, hb, hg, eq_self, ↓reduceIte]; clear hb; (try simp only [nfe] at hg))))); (any_goals ((refine hK _ _ _ _ (fun hx => ?_)); clear hx hK; simp -dsimp -implicitDefEqProofs only [go_sem, a1, a2, a3, a4, a5, a6, b1, b2, b3, b4, b5, b6, c1, c2, eq_self, ↓reduceIte]; (try simp (disch := omega) only [wrap_i64, wrap_u64, wrap_u32, wrap_u8]))); (all_goals (try omega))
  · exact sortFunc k F l R hb hp hs hl sort_none
  (repeat' (first | (refine C_seq rfl ?_) | (refine C_block rfl ?_) | (refine C_skip rfl ?_; (try simp -dsimp -implicitDefEqProofs only [go_sem, a1, a2, a3, a4, a5, a6, b1, b2, b3, b4, b5, b6, c1, c2, eq_self, ↓reduceIte])) | (refine C_exit rfl ?_; (try simp -dsimp -implicitDefEqProofs only [go_sem, a1, a2, a3, a4, a5, a6, b1, b2, b3, b4, b5, b6, c1, c2, eq_self, ↓reduceIte])) | (refine C_cond rfl _ rfl (fun ht => ?_) (fun ht => ?_) <;> (try (simp only [nf] at ht)) <;> (try (exfalso; omega))) | ((first | (refine S_reg0 rfl [0,2] rfl rfl (fun K hK => ?_)) | (refine S_drw0 rfl [0,2] rfl (by kernel_rfl) rfl (fun K hK => ?_))); simp -dsimp -implicitDefEqProofs only [go_sem, a1, a2, a3, a4, a5, a6, b1, b2, b3, b4, b5, b6, c1, c2, eq_self, ↓reduceIte]; (repeat' (first | (refine And.intro ?_ ?_) | (refine gs_both (fun hb => ?_) (fun hb => ?_) <;> (have hg := hb; (try simp only [nfb] at hg); simp -dsimp -implicitDefEqProofs only [go_sem, a1, a2, a3, a4, a5, a6, b1, b2, b3, b4, b5, b6, c1, c2, hb, hg, eq_self, ↓reduceIte]; clear hb; (try simp only [nfe] at hg))))); any_goals ((first | (refine hK _ _ _ _ (fun hx => ?_)) | (refine hK _ _ _ _ (drawOk_names (fun i => i - k) (by simp only [List.map_cons, List.map_nil, shG, a1, a2, a3, a4, a5, a6, b1, b2, b3, b4, b5, b6, c1, c2, ↓reduceIte, Nat.add_sub_cancel_left, Nat.sub_self]; rfl) (by decide +kernel) (by simp -dsimp -implicitDefEqProofs only [go_sem, a1, a2, a3, a4, a5, a6, b1, b2, b3, b4, b5, b6, c1, c2, eq_self, ↓reduceIte])) (fun hx => ?_)) | (refine hK _ _ _ _ (drawOk_of (by kernel_rfl) (by simp -dsimp -implicitDefEqProofs only [go_sem, a1, a2, a3, a4, a5, a6, b1, b2, b3, b4, b5, b6, c1, c2, eq_self, ↓reduceIte])) (fun hx => ?_))); clear hx hK; simp -dsimp -implicitDefEqProofs only [go_sem, a1, a2, a3, a4, a5, a6, b1, b2, b3, b4, b5, b6, c1, c2, eq_self, ↓reduceIte]; (try simp (disch := omega) only [wrap_i64, wrap_u64, wrap_u32, wrap_u8]))) | omega))
  refine C_ret rfl ?_
  rw [hV]
  refine ⟨k, [(2, accV F (R.map Flt.row))], LK L F s R, ?_, _, rfl, rfl, rfl, rfl⟩
  exact Mv.wk (wk_low (by omega) (by simp -dsimp -implicitDefEqProofs only [go_sem, a1, a2, a3, a4, a5, a6, b1, b2, b3, b4, b5, b6, c1, c2, List.map_append, List.map_cons, List.map_nil, Flt.row, eq_self, ↓reduceIte]) (by simp -dsimp -implicitDefEqProofs only [go_sem, a1, a2, a3, a4, a5, a6, b1, b2, b3, b4, b5, b6, c1, c2, List.map_append, List.map_cons, List.map_nil, Flt.row, eq_self, ↓reduceIte]) (by simp -dsimp -implicitDefEqProofs only [go_sem, a1, a2, a3, a4, a5, a6, b1, b2, b3, b4, b5, b6, c1, c2, List.map_append, List.map_cons, List.map_nil, Flt.row, eq_self, ↓reduceIte]) (by simp -dsimp -implicitDefEqProofs only [go_sem, a1, a2, a3, a4, a5, a6, b1, b2, b3, b4, b5, b6, c1, c2, List.map_append, List.map_cons, List.map_nil, Flt.row, eq_self, ↓reduceIte]))
def partsA (s : St) : List Flt := clocksA s ++ (tasksA s ++ spotsA s)
def checkA (s : St) : List Flt := if 0 < (shapeA s).length then shapeA s else if 0 < (partsA s).length then partsA s else floorsA s
theorem Mv.impure {kb k : Nat} {fr : Fr} {H : Heap} (id : Nat) {s : Nat} {p : Bool} {rows : List (List AVal)} (hH : AM.look H id = some ⟨s, p, rows⟩) :
    Mv kb k fr H k fr ((id, ⟨s, false, rows⟩) :: del H id) := fun hk => Mv.wk ⟨hk, fun t v h => ⟨v, h, VLe.refl v⟩, fun i B hB => by
  rw [look_cons_del] at hB
  split at hB
  · rename_i he
    subst he
    cases hB
    exact ⟨_, hH, rfl, fun q row hq => ⟨row, hq, rfl, fun c u v hu hv => by rw [hu] at hv; cases hv; exact VLe.refl _⟩, fun h => by cases h⟩
  · exact ⟨B, hB, BLe.refl B⟩, .inl rfl⟩ hk
structure PreOk (s : St) : Prop where
  sm : s.Small
  n12 : s.ns ≤ 12
  p12 : ∀ g, g < s.ns → s.nsp g ≤ 12
theorem shapeA_len (s : St) (h : s.ns ≤ 12) : (shapeA s).length ≤ 100 := by
  have h1 := flats_len (shapeAt_len s) s.ns
  unfold shapeA iff1
  simp only [List.length_append]
  split <;> split <;> split <;> split <;> simp <;> omega
theorem floorsA_len (s : St) (h : s.ns ≤ 12) (hc : s.cpus ≤ 64) : (floorsA s).length ≤ 800 := by
  have := flats_len (f := floorsAt s) (m := 12) (fun i => by have := flats_len (f := floorJ s i) (m := 1) (fun j => stepL_len _ _ _ _) s.ns; unfold floorsAt; omega) s.cpus.toNat
  unfold floorsA; omega
theorem clocksA_len (s : St) (hs : s.Small) : (clocksA s).length ≤ 2000 := by
  have h1 := flats_len (f := clockAt s) (m := 1) (fun i => iff1_len1 _ _) s.nk
  have h2 := flats_len (f := curAt s) (m := 1) (fun i => iff1_len1 _ _) s.nu
  have := hs.nk
  have := hs.nu
  unfold clocksA; rw [List.length_append]; omega
theorem tasksA_len (s : St) (hs : s.Small) : (tasksA s).length ≤ 7000 := by
  have h1 := flats_len (f := taskAt s) (m := 7) (taskAt_len s) s.nt
  have := hs.nt
  unfold tasksA; omega
theorem spotsA_len (s : St) (hs : PreOk s) : (spotsA s).length ≤ 144 := by
  have h1 := flats_len' (f := spotsAt s) (m := 12) s.ns (fun g hg => by have := flats_len (f := spotAt s g) (m := 1) (spotAt_len s g) (s.nsp g); have := hs.p12 g hg; unfold spotsAt; omega)
  have := hs.n12
  unfold spotsA; omega
set_option maxHeartbeats 4000000 in
theorem check (hD : DepthOk Γ) (s : St) (hq : PreOk s) (R : List Flt) (hcfg : modCfg s = false → R = [⟨1, 0, 0⟩])
    (hfl : modCfg s = true → (shapeA s).length = 0 → (partsA s).length = 0 → FloorOk s)
    (hb : modCfg s = true → ∀ f ∈ checkA s, f.ok) (hp : modCfg s = true → R.Perm (checkA s)) (hso : modCfg s = true → R.Pairwise (fun x y => 0 ≤ cfF y x)) :
    Pure Tryd.prog Γ 11 [.agg s.cells] (rows 3 (R.map Flt.row)) := by
  obtain ⟨hs, h12, hp12⟩ := id hq
  obtain ⟨hng, hnk, hnu, hnt, hns, hnsp⟩ := id hs
  refine Pure_at Tryd.func11 rfl 45 rfl (Nat.le_of_ble_eq_true rfl) rfl fun k => ?_
  (repeat' (first | (refine C_seq rfl ?_) | (refine C_block rfl ?_) | (refine C_skip rfl ?_; (try simp -dsimp -implicitDefEqProofs only [go_sem, eq_self, ↓reduceIte])) | (refine C_exit rfl ?_; (try simp -dsimp -implicitDefEqProofs only [go_sem, eq_self, ↓reduceIte])) | (refine C_cond rfl _ rfl (fun ht => ?_) (fun ht => ?_) <;> (try (simp only [nf] at ht)) <;> (try (exfalso; omega))) | ((first | (refine S_reg0 rfl [0,1,2,3,4,6,8,15,22,23,24,26,27,28,29,41] rfl rfl (fun K hK => ?_)) | (refine S_drw0 rfl [0,1,2,3,4,6,8,15,22,23,24,26,27,28,29,41] rfl (by kernel_rfl) rfl (fun K hK => ?_))); simp -dsimp -implicitDefEqProofs only [go_sem, eq_self, ↓reduceIte]; (repeat' (first | (refine And.intro ?_ ?_) | (refine gs_both (fun hb => ?_) (fun hb => ?_) <;> (have hg := hb; (try simp only [nfb] at hg); simp -dsimp -implicitDefEqProofs only [go_sem, hb, hg, eq_self, ↓reduceIte]; clear hb; (try simp only [nfe] at hg))))); any_goals ((first | (refine hK _ _ _ _ (fun hx => ?_)) | (refine hK _ _ _ _ (drawOk_names (fun i => i - k) (by simp only [List.map_cons, List.map_nil, shG, ↓reduceIte, Nat.add_sub_cancel_left, Nat.sub_self]; rfl) (by decide +kernel) (by simp -dsimp -implicitDefEqProofs only [go_sem, eq_self, ↓reduceIte])) (fun hx => ?_)) | (refine hK _ _ _ _ (drawOk_of (by kernel_rfl) (by simp -dsimp -implicitDefEqProofs only [go_sem, eq_self, ↓reduceIte])) (fun hx => ?_))); clear hx hK; simp -dsimp -implicitDefEqProofs only [go_sem, eq_self, ↓reduceIte]; (try simp (disch := omega) only [wrap_i64, wrap_u64, wrap_u32, wrap_u8]))) | omega))
  refine S_reg rfl [0,1,2,3,4,6,8,15,22,23,24,26,27,28,29,41] [.ret (.lit (.bool (modCfg s)))] rfl (fun K hK => ?_); simp -dsimp -implicitDefEqProofs only [go_sem, eq_self, ↓reduceIte]; (repeat' (first | (refine And.intro ?_ ?_) | (refine gs_both (fun hb => ?_) (fun hb => ?_) <;> (have hg := hb; (try simp only [nfb] at hg); simp -dsimp -implicitDefEqProofs only [go_sem, hb, hg, eq_self, ↓reduceIte]; clear hb; (try simp only [nfe] at hg))))); (any_goals ((refine hK _ _ _ _ (fun hx => ?_)); clear hx hK; simp -dsimp -implicitDefEqProofs only [go_sem, eq_self, ↓reduceIte]; (try simp (disch := omega) only [wrap_i64, wrap_u64, wrap_u32, wrap_u8]))); (all_goals (try omega))
  · exact rightConfig hD s
  refine C_cond rfl _ rfl (fun ht => ?_) (fun hf => ?_)
  · (repeat' (first | (refine C_seq rfl ?_) | (refine C_block rfl ?_) | (refine C_skip rfl ?_; (try simp -dsimp -implicitDefEqProofs only [go_sem, eq_self, ↓reduceIte])) | (refine C_exit rfl ?_; (try simp -dsimp -implicitDefEqProofs only [go_sem, eq_self, ↓reduceIte])) | (refine C_cond rfl _ rfl (fun ht => ?_) (fun ht => ?_) <;> (try (simp only [nf] at ht)) <;> (try (exfalso; omega))) | ((first | (refine S_reg0 rfl [0,1,2,3,4,6,8,15,22,23,24,26,27,28,29,41] rfl rfl (fun K hK => ?_)) | (refine S_drw0 rfl [0,1,2,3,4,6,8,15,22,23,24,26,27,28,29,41] rfl (by kernel_rfl) rfl (fun K hK => ?_))); simp -dsimp -implicitDefEqProofs only [go_sem, eq_self, ↓reduceIte]; (repeat' (first | (refine And.intro ?_ ?_) | (refine gs_both (fun hb => ?_) (fun hb => ?_) <;> (have hg := hb; (try simp only [nfb] at hg); simp -dsimp -implicitDefEqProofs only [go_sem, hb, hg, eq_self, ↓reduceIte]; clear hb; (try simp only [nfe] at hg))))); any_goals ((first | (refine hK _ _ _ _ (fun hx => ?_)) | (refine hK _ _ _ _ (drawOk_names (fun i => i - k) (by simp only [List.map_cons, List.map_nil, shG, ↓reduceIte, Nat.add_sub_cancel_left, Nat.sub_self]; rfl) (by decide +kernel) (by simp -dsimp -implicitDefEqProofs only [go_sem, eq_self, ↓reduceIte])) (fun hx => ?_)) | (refine hK _ _ _ _ (drawOk_of (by kernel_rfl) (by simp -dsimp -implicitDefEqProofs only [go_sem, eq_self, ↓reduceIte])) (fun hx => ?_))); clear hx hK; simp -dsimp -implicitDefEqProofs only [go_sem, eq_self, ↓reduceIte]; (try simp (disch := omega) only [wrap_i64, wrap_u64, wrap_u32, wrap_u8]))) | omega))
    have ht' : modCfg s = false := by simpa using ht
    rw [hcfg ht']
    refine M_ret rfl (Mv.frz_acc (id := k + 2) (s := 3) (l := [Flt.row ⟨1, 0, 0⟩]) 2 (by simp -dsimp -implicitDefEqProofs only [go_sem, List.map_append, List.map_cons, List.map_nil, Flt.row, eq_self, ↓reduceIte]) (by simp -dsimp -implicitDefEqProofs only [go_sem, List.map_append, List.map_cons, List.map_nil, Flt.row, eq_self, ↓reduceIte])) ⟨_, rfl, ?_⟩
    exact VLe.refl _
  · have hcf : modCfg s = true := by simpa using hf
    have hrc := hcf
    rw [cfg_eq] at hrc
    obtain ⟨⟨r1, r2, r3, r4, r5, r6, r7⟩, rall⟩ := refCfg_spec hrc
    refine C_skip rfl ?_; simp -dsimp -implicitDefEqProofs only [go_sem, eq_self, ↓reduceIte]
    refine C_seq rfl ?_
    refine S_reg rfl [0,1,2,3,4,6,8,15,22,23,24,26,27,28,29,41] [] rfl (fun K hK => ?_); simp -dsimp -implicitDefEqProofs only [go_sem, eq_self, ↓reduceIte]; (repeat' (first | (refine And.intro ?_ ?_) | (refine gs_both (fun hb => ?_) (fun hb => ?_) <;> (have hg := hb; (try simp only [nfb] at hg); simp -dsimp -implicitDefEqProofs only [go_sem, hb, hg, eq_self, ↓reduceIte]; clear hb; (try simp only [nfe] at hg))))); (any_goals ((refine hK _ _ _ _ (fun hx => ?_)); clear hx hK; simp -dsimp -implicitDefEqProofs only [go_sem, eq_self, ↓reduceIte]; (try simp (disch := omega) only [wrap_i64, wrap_u64, wrap_u32, wrap_u8]))); (all_goals (try omega))
    refine W_mv (Mv.impure (k + 1) (by simp -dsimp -implicitDefEqProofs only [go_sem, eq_self, ↓reduceIte]; rfl)) ?_
    refine W_mv (Mv.freeze (k + 2) (by simp -dsimp -implicitDefEqProofs only [go_sem, eq_self, ↓reduceIte]; rfl) rfl) ?_; simp -dsimp -implicitDefEqProofs only [frzF, frz_app, go_sem, eq_self, ↓reduceIte]
    refine W_mv (Mv.freeze (k + 3) (by simp -dsimp -implicitDefEqProofs only [go_sem, eq_self, ↓reduceIte]; rfl) rfl) ?_; simp -dsimp -implicitDefEqProofs only [frzF, frz_app, go_sem, eq_self, ↓reduceIte]
    refine W_mv (Mv.freeze (k + 4) (by simp -dsimp -implicitDefEqProofs only [go_sem, eq_self, ↓reduceIte]; rfl) rfl) ?_; simp -dsimp -implicitDefEqProofs only [frzF, frz_app, go_sem, eq_self, ↓reduceIte]
    refine M_midO (X := List Flt) rfl [2, 3] (k + 3) (fun l => []) (fun l => LK (k + 1) (k + 2) s l) (fun l => l = checkA s) ?_ ?_
    · refine C_seq rfl ?_
      refine S_reg rfl [0,1,2,3,4,6,8,15,22,23,24,26,27,28,29,41] [] rfl (fun K hK => ?_); simp -dsimp -implicitDefEqProofs only [go_sem, eq_self, ↓reduceIte]; (repeat' (first | (refine And.intro ?_ ?_) | (refine gs_both (fun hb => ?_) (fun hb => ?_) <;> (have hg := hb; (try simp only [nfb] at hg); simp -dsimp -implicitDefEqProofs only [go_sem, hb, hg, eq_self, ↓reduceIte]; clear hb; (try simp only [nfe] at hg))))); (any_goals ((refine hK _ _ _ _ (fun hx => ?_)); clear hx hK; simp -dsimp -implicitDefEqProofs only [go_sem, eq_self, ↓reduceIte]; (try simp (disch := omega) only [wrap_i64, wrap_u64, wrap_u32, wrap_u8]))); (all_goals (try omega))
      refine W_mv (Mv.wk (fr1 := [(23, .lit (.int .i64 0)), (22, .agg [.rd 1 1 (fun q => ([[AVal.fn 22 []]] : List (List AVal)).getD q []), .rd 1 3 (fun q => ([[AVal.fn 23 []], [AVal.fn 24 []], [AVal.fn 25 []]] : List (List AVal)).getD q []), .rd 1 1 (fun q => ([[AVal.fn 26 []]] : List (List AVal)).getD q [])]), (3, .ptr (k + 1) 0 0), (2, .lit (.slice none 0 0))]) (k1 := k + 3) (H1 := LK (k + 1) (k + 2) s []) (wk_low (by omega) (by simp -dsimp -implicitDefEqProofs only [go_sem, List.map_append, List.map_cons, List.map_nil, Flt.row, eq_self, ↓reduceIte]) (by simp -dsimp -implicitDefEqProofs only [go_sem, List.map_append, List.map_cons, List.map_nil, Flt.row, eq_self, ↓reduceIte]) (by simp -dsimp -implicitDefEqProofs only [go_sem, List.map_append, List.map_cons, List.map_nil, Flt.row, eq_self, ↓reduceIte]) (by simp -dsimp -implicitDefEqProofs only [go_sem, List.map_append, List.map_cons, List.map_nil, Flt.row, eq_self, ↓reduceIte]))) ?_
      simp -dsimp -implicitDefEqProofs only [go_sem, eq_self, ↓reduceIte]
      refine C_block rfl ?_
      refine C_rounds rfl 4 ?_
      refine AM.rounds_succ ?_
      (repeat' (first | (refine C_seq rfl ?_) | (refine C_block rfl ?_) | (refine C_skip rfl ?_; (try simp -dsimp -implicitDefEqProofs only [go_sem, eq_self, ↓reduceIte])) | (refine C_exit rfl ?_; (try simp -dsimp -implicitDefEqProofs only [go_sem, eq_self, ↓reduceIte])) | (refine C_cond rfl _ rfl (fun ht => ?_) (fun ht => ?_) <;> (try (simp only [nf] at ht)) <;> (try (exfalso; omega))) | ((first | (refine S_reg0 rfl [0,1,2,3,4,6,8,15,22,23,24,26,27,28,29,41] rfl rfl (fun K hK => ?_)) | (refine S_drw0 rfl [0,1,2,3,4,6,8,15,22,23,24,26,27,28,29,41] rfl (by kernel_rfl) rfl (fun K hK => ?_))); simp -dsimp -implicitDefEqProofs only [go_sem, eq_self, ↓reduceIte]; (repeat' (first | (refine And.intro ?_ ?_) | (refine gs_both (fun hb => ?_) (fun hb => ?_) <;> (have hg := hb; (try simp only [nfb] at hg); simp -dsimp -implicitDefEqProofs only [go_sem, hb, hg, eq_self, ↓reduceIte]; clear hb; (try simp only [nfe] at hg))))); any_goals ((first | (refine hK _ _ _ _ (fun hx => ?_)) | (refine hK _ _ _ _ (drawOk_names (fun i => i - k) (by simp only [List.map_cons, List.map_nil, shG, ↓reduceIte, Nat.add_sub_cancel_left, Nat.sub_self]; rfl) (by decide +kernel) (by simp -dsimp -implicitDefEqProofs only [go_sem, eq_self, ↓reduceIte])) (fun hx => ?_)) | (refine hK _ _ _ _ (drawOk_of (by kernel_rfl) (by simp -dsimp -implicitDefEqProofs only [go_sem, eq_self, ↓reduceIte])) (fun hx => ?_))); clear hx hK; simp -dsimp -implicitDefEqProofs only [go_sem, eq_self, ↓reduceIte]; (try simp (disch := omega) only [wrap_i64, wrap_u64, wrap_u32, wrap_u8]))) | omega))
      refine C_rounds rfl 2 ?_
      refine AM.rounds_succ ?_
      (repeat' (first | (refine C_seq rfl ?_) | (refine C_block rfl ?_) | (refine C_skip rfl ?_; (try simp -dsimp -implicitDefEqProofs only [go_sem, eq_self, ↓reduceIte])) | (refine C_exit rfl ?_; (try simp -dsimp -implicitDefEqProofs only [go_sem, eq_self, ↓reduceIte])) | (refine C_cond rfl _ rfl (fun ht => ?_) (fun ht => ?_) <;> (try (simp only [nf] at ht)) <;> (try (exfalso; omega))) | ((first | (refine S_reg0 rfl [0,1,2,3,4,6,8,15,22,23,24,26,27,28,29,41] rfl rfl (fun K hK => ?_)) | (refine S_drw0 rfl [0,1,2,3,4,6,8,15,22,23,24,26,27,28,29,41] rfl (by kernel_rfl) rfl (fun K hK => ?_))); simp -dsimp -implicitDefEqProofs only [go_sem, eq_self, ↓reduceIte]; (repeat' (first | (refine And.intro ?_ ?_) | (refine gs_both (fun hb => ?_) (fun hb => ?_) <;> (have hg := hb; (try simp only [nfb] at hg); simp -dsimp -implicitDefEqProofs only [go_sem, hb, hg, eq_self, ↓reduceIte]; clear hb; (try simp only [nfe] at hg))))); any_goals ((first | (refine hK _ _ _ _ (fun hx => ?_)) | (refine hK _ _ _ _ (drawOk_names (fun i => i - k) (by simp only [List.map_cons, List.map_nil, shG, ↓reduceIte, Nat.add_sub_cancel_left, Nat.sub_self]; rfl) (by decide +kernel) (by simp -dsimp -implicitDefEqProofs only [go_sem, eq_self, ↓reduceIte])) (fun hx => ?_)) | (refine hK _ _ _ _ (drawOk_of (by kernel_rfl) (by simp -dsimp -implicitDefEqProofs only [go_sem, eq_self, ↓reduceIte])) (fun hx => ?_))); clear hx hK; simp -dsimp -implicitDefEqProofs only [go_sem, eq_self, ↓reduceIte]; (try simp (disch := omega) only [wrap_i64, wrap_u64, wrap_u32, wrap_u8]))) | omega))
      obtain ⟨l1, e1, h1⟩ : ∃ x, x = shapeA s ∧ x.length ≤ 100 := ⟨_, rfl, shapeA_len s h12⟩
      refine M_cutO [0,1,2,3,4,6,8,15,22,23,24,26,27,28,29,41] (k + 3) [] (LK (k + 1) (k + 2) s l1) ?_ ?_
      · refine S_reg rfl [0,1,2,3,4,6,8,15,22,23,24,26,27,28,29,41] [.gen (.tup []) (k + 4) (LK (k + 1) (k + 2) s []) (LK (k + 1) (k + 3) s l1)] rfl (fun K hK => ?_); simp -dsimp -implicitDefEqProofs only [go_sem, eq_self, ↓reduceIte]; (repeat' (first | (refine And.intro ?_ ?_) | (refine gs_both (fun hb => ?_) (fun hb => ?_) <;> (have hg := hb; (try simp only [nfb] at hg); simp -dsimp -implicitDefEqProofs only [go_sem, hb, hg, eq_self, ↓reduceIte]; clear hb; (try simp only [nfe] at hg))))); (any_goals ((refine hK _ _ _ _ (fun hx => ?_)); clear hx hK; simp -dsimp -implicitDefEqProofs only [go_sem, eq_self, ↓reduceIte]; (try simp (disch := omega) only [wrap_i64, wrap_u64, wrap_u32, wrap_u8]))); (all_goals (try omega))
        · kernel_rfl
        · have h := shape (Γ := Γ) s hs (k + 3) (k + 1) (k + 2) [] (by omega) (by omega) (by omega) (by simp)
          rw [List.nil_append, ← e1] at h
          exact h
        exact Mv.app (k + 3) (k + 2) ⟨by omega, by omega⟩ ⟨by omega, by omega⟩ (wk_low (by omega) (by simp -dsimp -implicitDefEqProofs only [go_sem, List.map_append, List.map_cons, List.map_nil, Flt.row, eq_self, ↓reduceIte]) (by simp -dsimp -implicitDefEqProofs only [go_sem, List.map_append, List.map_cons, List.map_nil, Flt.row, eq_self, ↓reduceIte]) (by simp -dsimp -implicitDefEqProofs only [go_sem, List.map_append, List.map_cons, List.map_nil, Flt.row, eq_self, ↓reduceIte]) (by simp -dsimp -implicitDefEqProofs only [go_sem, List.map_append, List.map_cons, List.map_nil, Flt.row, eq_self, ↓reduceIte]))
      simp -dsimp -implicitDefEqProofs only [go_sem, eq_self, ↓reduceIte]
      (repeat' (first | (refine C_seq rfl ?_) | (refine C_block rfl ?_) | (refine C_skip rfl ?_; (try simp -dsimp -implicitDefEqProofs only [go_sem, eq_self, ↓reduceIte])) | (refine C_exit rfl ?_; (try simp -dsimp -implicitDefEqProofs only [go_sem, eq_self, ↓reduceIte])) | (refine C_cond rfl _ rfl (fun ht => ?_) (fun ht => ?_) <;> (try (simp only [nf] at ht)) <;> (try (exfalso; omega))) | ((first | (refine S_reg0 rfl [0,1,2,3,4,6,8,15,22,23,24,26,27,28,29,41] rfl rfl (fun K hK => ?_)) | (refine S_drw0 rfl [0,1,2,3,4,6,8,15,22,23,24,26,27,28,29,41] rfl (by kernel_rfl) rfl (fun K hK => ?_))); simp -dsimp -implicitDefEqProofs only [go_sem, eq_self, ↓reduceIte]; (repeat' (first | (refine And.intro ?_ ?_) | (refine gs_both (fun hb => ?_) (fun hb => ?_) <;> (have hg := hb; (try simp only [nfb] at hg); simp -dsimp -implicitDefEqProofs only [go_sem, hb, hg, eq_self, ↓reduceIte]; clear hb; (try simp only [nfe] at hg))))); any_goals ((first | (refine hK _ _ _ _ (fun hx => ?_)) | (refine hK _ _ _ _ (drawOk_names (fun i => i - k) (by simp only [List.map_cons, List.map_nil, shG, ↓reduceIte, Nat.add_sub_cancel_left, Nat.sub_self]; rfl) (by decide +kernel) (by simp -dsimp -implicitDefEqProofs only [go_sem, eq_self, ↓reduceIte])) (fun hx => ?_)) | (refine hK _ _ _ _ (drawOk_of (by kernel_rfl) (by simp -dsimp -implicitDefEqProofs only [go_sem, eq_self, ↓reduceIte])) (fun hx => ?_))); clear hx hK; simp -dsimp -implicitDefEqProofs only [go_sem, eq_self, ↓reduceIte]; (try simp (disch := omega) only [wrap_i64, wrap_u64, wrap_u32, wrap_u8]))) | omega))
      · refine ⟨l1, by rw [checkA, ← e1, if_pos (by omega)], ?_⟩
        exact Mv.wk (wk_low (by omega) (by simp -dsimp -implicitDefEqProofs only [go_sem, List.map_append, List.map_cons, List.map_nil, Flt.row, eq_self, ↓reduceIte]) (by simp -dsimp -implicitDefEqProofs only [go_sem, List.map_append, List.map_cons, List.map_nil, Flt.row, eq_self, ↓reduceIte]) (by simp -dsimp -implicitDefEqProofs only [go_sem, List.map_append, List.map_cons, List.map_nil, Flt.row, eq_self, ↓reduceIte]) (by simp -dsimp -implicitDefEqProofs only [go_sem, List.map_append, List.map_cons, List.map_nil, Flt.row, eq_self, ↓reduceIte]))
      · obtain rfl : l1 = [] := List.eq_nil_of_length_eq_zero (by omega)
        have hz : (shapeA s).length = 0 := by rw [← e1]; rfl
        have hchk : checkA s = if 0 < (partsA s).length then partsA s else floorsA s := by rw [checkA, if_neg (by omega)]
        obtain ⟨z1, z2, z3, z4⟩ := shapes_nil (s := s) (by rw [← shapeA_eq]; exact hz)
        refine C_rounds rfl 4 ?_
        refine AM.rounds_succ ?_
        (repeat' (first | (refine C_seq rfl ?_) | (refine C_block rfl ?_) | (refine C_skip rfl ?_; (try simp -dsimp -implicitDefEqProofs only [go_sem, eq_self, ↓reduceIte])) | (refine C_exit rfl ?_; (try simp -dsimp -implicitDefEqProofs only [go_sem, eq_self, ↓reduceIte])) | (refine C_cond rfl _ rfl (fun ht => ?_) (fun ht => ?_) <;> (try (simp only [nf] at ht)) <;> (try (exfalso; omega))) | ((first | (refine S_reg0 rfl [0,1,2,3,4,6,8,15,22,23,24,26,27,28,29,41] rfl rfl (fun K hK => ?_)) | (refine S_drw0 rfl [0,1,2,3,4,6,8,15,22,23,24,26,27,28,29,41] rfl (by kernel_rfl) rfl (fun K hK => ?_))); simp -dsimp -implicitDefEqProofs only [go_sem, eq_self, ↓reduceIte]; (repeat' (first | (refine And.intro ?_ ?_) | (refine gs_both (fun hb => ?_) (fun hb => ?_) <;> (have hg := hb; (try simp only [nfb] at hg); simp -dsimp -implicitDefEqProofs only [go_sem, hb, hg, eq_self, ↓reduceIte]; clear hb; (try simp only [nfe] at hg))))); any_goals ((first | (refine hK _ _ _ _ (fun hx => ?_)) | (refine hK _ _ _ _ (drawOk_names (fun i => i - k) (by simp only [List.map_cons, List.map_nil, shG, ↓reduceIte, Nat.add_sub_cancel_left, Nat.sub_self]; rfl) (by decide +kernel) (by simp -dsimp -implicitDefEqProofs only [go_sem, eq_self, ↓reduceIte])) (fun hx => ?_)) | (refine hK _ _ _ _ (drawOk_of (by kernel_rfl) (by simp -dsimp -implicitDefEqProofs only [go_sem, eq_self, ↓reduceIte])) (fun hx => ?_))); clear hx hK; simp -dsimp -implicitDefEqProofs only [go_sem, eq_self, ↓reduceIte]; (try simp (disch := omega) only [wrap_i64, wrap_u64, wrap_u32, wrap_u8]))) | omega))
        obtain ⟨p1, f1, g1⟩ : ∃ x, x = clocksA s ∧ x.length ≤ 2000 := ⟨_, rfl, clocksA_len s hs⟩
        refine M_cutO [0,1,2,3,4,6,8,15,22,23,24,26,27,28,29,41] (k + 3) [] (LK (k + 1) (k + 2) s p1) ?_ ?_
        · refine S_reg rfl [0,1,2,3,4,6,8,15,22,23,24,26,27,28,29,41] [.gen (.tup []) (k + 4) (LK (k + 1) (k + 2) s []) (LK (k + 1) (k + 3) s p1)] rfl (fun K hK => ?_); simp -dsimp -implicitDefEqProofs only [go_sem, eq_self, ↓reduceIte]; (repeat' (first | (refine And.intro ?_ ?_) | (refine gs_both (fun hb => ?_) (fun hb => ?_) <;> (have hg := hb; (try simp only [nfb] at hg); simp -dsimp -implicitDefEqProofs only [go_sem, hb, hg, eq_self, ↓reduceIte]; clear hb; (try simp only [nfe] at hg))))); (any_goals ((refine hK _ _ _ _ (fun hx => ?_)); clear hx hK; simp -dsimp -implicitDefEqProofs only [go_sem, eq_self, ↓reduceIte]; (try simp (disch := omega) only [wrap_i64, wrap_u64, wrap_u32, wrap_u8]))); (all_goals (try omega))
          · kernel_rfl
          · have h := clocks (Γ := Γ) s hs (k + 3) (k + 1) (k + 2) [] (by omega) (by omega) (by omega) (by simp)
            rw [List.nil_append, ← f1] at h
            exact h
          exact Mv.app (k + 3) (k + 2) ⟨by omega, by omega⟩ ⟨by omega, by omega⟩ (wk_low (by omega) (by simp -dsimp -implicitDefEqProofs only [go_sem, List.map_append, List.map_cons, List.map_nil, Flt.row, eq_self, ↓reduceIte]) (by simp -dsimp -implicitDefEqProofs only [go_sem, List.map_append, List.map_cons, List.map_nil, Flt.row, eq_self, ↓reduceIte]) (by simp -dsimp -implicitDefEqProofs only [go_sem, List.map_append, List.map_cons, List.map_nil, Flt.row, eq_self, ↓reduceIte]) (by simp -dsimp -implicitDefEqProofs only [go_sem, List.map_append, List.map_cons, List.map_nil, Flt.row, eq_self, ↓reduceIte]))
        simp -dsimp -implicitDefEqProofs only [go_sem, eq_self, ↓reduceIte]
        (repeat' (first | (refine C_seq rfl ?_) | (refine C_block rfl ?_) | (refine C_skip rfl ?_; (try simp -dsimp -implicitDefEqProofs only [go_sem, eq_self, ↓reduceIte])) | (refine C_exit rfl ?_; (try simp -dsimp -implicitDefEqProofs only [go_sem, eq_self, ↓reduceIte])) | (refine C_cond rfl _ rfl (fun ht => ?_) (fun ht => ?_) <;> (try (simp only [nf] at ht)) <;> (try (exfalso; omega))) | ((first | (refine S_reg0 rfl [0,1,2,3,4,6,8,15,22,23,24,26,27,28,29,41] rfl rfl (fun K hK => ?_)) | (refine S_drw0 rfl [0,1,2,3,4,6,8,15,22,23,24,26,27,28,29,41] rfl (by kernel_rfl) rfl (fun K hK => ?_))); simp -dsimp -implicitDefEqProofs only [go_sem, eq_self, ↓reduceIte]; (repeat' (first | (refine And.intro ?_ ?_) | (refine gs_both (fun hb => ?_) (fun hb => ?_) <;> (have hg := hb; (try simp only [nfb] at hg); simp -dsimp -implicitDefEqProofs only [go_sem, hb, hg, eq_self, ↓reduceIte]; clear hb; (try simp only [nfe] at hg))))); any_goals ((first | (refine hK _ _ _ _ (fun hx => ?_)) | (refine hK _ _ _ _ (drawOk_names (fun i => i - k) (by simp only [List.map_cons, List.map_nil, shG, ↓reduceIte, Nat.add_sub_cancel_left, Nat.sub_self]; rfl) (by decide +kernel) (by simp -dsimp -implicitDefEqProofs only [go_sem, eq_self, ↓reduceIte])) (fun hx => ?_)) | (refine hK _ _ _ _ (drawOk_of (by kernel_rfl) (by simp -dsimp -implicitDefEqProofs only [go_sem, eq_self, ↓reduceIte])) (fun hx => ?_))); clear hx hK; simp -dsimp -implicitDefEqProofs only [go_sem, eq_self, ↓reduceIte]; (try simp (disch := omega) only [wrap_i64, wrap_u64, wrap_u32, wrap_u8]))) | omega))
        obtain ⟨p2, f2, g2⟩ : ∃ x, x = p1 ++ tasksA s ∧ x.length ≤ 9000 := ⟨_, rfl, by have := tasksA_len s hs; rw [List.length_append]; omega⟩
        refine M_cutO [0,1,2,3,4,6,8,15,22,23,24,26,27,28,29,41] (k + 3) [] (LK (k + 1) (k + 2) s p2) ?_ ?_
        · refine S_reg rfl [0,1,2,3,4,6,8,15,22,23,24,26,27,28,29,41] [.gen (.tup []) (k + 4) (LK (k + 1) (k + 2) s p1) (LK (k + 1) (k + 3) s p2)] rfl (fun K hK => ?_); simp -dsimp -implicitDefEqProofs only [go_sem, eq_self, ↓reduceIte]; (repeat' (first | (refine And.intro ?_ ?_) | (refine gs_both (fun hb => ?_) (fun hb => ?_) <;> (have hg := hb; (try simp only [nfb] at hg); simp -dsimp -implicitDefEqProofs only [go_sem, hb, hg, eq_self, ↓reduceIte]; clear hb; (try simp only [nfe] at hg))))); (any_goals ((refine hK _ _ _ _ (fun hx => ?_)); clear hx hK; simp -dsimp -implicitDefEqProofs only [go_sem, eq_self, ↓reduceIte]; (try simp (disch := omega) only [wrap_i64, wrap_u64, wrap_u32, wrap_u8]))); (all_goals (try omega))
          · kernel_rfl
          · have h := tasks (Γ := Γ) s hs (by omega) (k + 3) (k + 1) (k + 2) p1 (by omega) (by omega) (by omega) (by omega)
            rw [← f2] at h
            exact h
          exact Mv.app (k + 3) (k + 2) ⟨by omega, by omega⟩ ⟨by omega, by omega⟩ (wk_low (by omega) (by simp -dsimp -implicitDefEqProofs only [go_sem, List.map_append, List.map_cons, List.map_nil, Flt.row, eq_self, ↓reduceIte]) (by simp -dsimp -implicitDefEqProofs only [go_sem, List.map_append, List.map_cons, List.map_nil, Flt.row, eq_self, ↓reduceIte]) (by simp -dsimp -implicitDefEqProofs only [go_sem, List.map_append, List.map_cons, List.map_nil, Flt.row, eq_self, ↓reduceIte]) (by simp -dsimp -implicitDefEqProofs only [go_sem, List.map_append, List.map_cons, List.map_nil, Flt.row, eq_self, ↓reduceIte]))
        simp -dsimp -implicitDefEqProofs only [go_sem, eq_self, ↓reduceIte]
        (repeat' (first | (refine C_seq rfl ?_) | (refine C_block rfl ?_) | (refine C_skip rfl ?_; (try simp -dsimp -implicitDefEqProofs only [go_sem, eq_self, ↓reduceIte])) | (refine C_exit rfl ?_; (try simp -dsimp -implicitDefEqProofs only [go_sem, eq_self, ↓reduceIte])) | (refine C_cond rfl _ rfl (fun ht => ?_) (fun ht => ?_) <;> (try (simp only [nf] at ht)) <;> (try (exfalso; omega))) | ((first | (refine S_reg0 rfl [0,1,2,3,4,6,8,15,22,23,24,26,27,28,29,41] rfl rfl (fun K hK => ?_)) | (refine S_drw0 rfl [0,1,2,3,4,6,8,15,22,23,24,26,27,28,29,41] rfl (by kernel_rfl) rfl (fun K hK => ?_))); simp -dsimp -implicitDefEqProofs only [go_sem, eq_self, ↓reduceIte]; (repeat' (first | (refine And.intro ?_ ?_) | (refine gs_both (fun hb => ?_) (fun hb => ?_) <;> (have hg := hb; (try simp only [nfb] at hg); simp -dsimp -implicitDefEqProofs only [go_sem, hb, hg, eq_self, ↓reduceIte]; clear hb; (try simp only [nfe] at hg))))); any_goals ((first | (refine hK _ _ _ _ (fun hx => ?_)) | (refine hK _ _ _ _ (drawOk_names (fun i => i - k) (by simp only [List.map_cons, List.map_nil, shG, ↓reduceIte, Nat.add_sub_cancel_left, Nat.sub_self]; rfl) (by decide +kernel) (by simp -dsimp -implicitDefEqProofs only [go_sem, eq_self, ↓reduceIte])) (fun hx => ?_)) | (refine hK _ _ _ _ (drawOk_of (by kernel_rfl) (by simp -dsimp -implicitDefEqProofs only [go_sem, eq_self, ↓reduceIte])) (fun hx => ?_))); clear hx hK; simp -dsimp -implicitDefEqProofs only [go_sem, eq_self, ↓reduceIte]; (try simp (disch := omega) only [wrap_i64, wrap_u64, wrap_u32, wrap_u8]))) | omega))
        obtain ⟨p3, f3, g3⟩ : ∃ x, x = p2 ++ spotsA s ∧ x.length ≤ 9144 := ⟨_, rfl, by have := spotsA_len s hq; rw [List.length_append]; omega⟩
        refine M_cutO [0,1,2,3,4,6,8,15,22,23,24,26,27,28,29,41] (k + 3) [] (LK (k + 1) (k + 2) s p3) ?_ ?_
        · refine S_reg rfl [0,1,2,3,4,6,8,15,22,23,24,26,27,28,29,41] [.gen (.tup []) (k + 4) (LK (k + 1) (k + 2) s p2) (LK (k + 1) (k + 3) s p3)] rfl (fun K hK => ?_); simp -dsimp -implicitDefEqProofs only [go_sem, eq_self, ↓reduceIte]; (repeat' (first | (refine And.intro ?_ ?_) | (refine gs_both (fun hb => ?_) (fun hb => ?_) <;> (have hg := hb; (try simp only [nfb] at hg); simp -dsimp -implicitDefEqProofs only [go_sem, hb, hg, eq_self, ↓reduceIte]; clear hb; (try simp only [nfe] at hg))))); (any_goals ((refine hK _ _ _ _ (fun hx => ?_)); clear hx hK; simp -dsimp -implicitDefEqProofs only [go_sem, eq_self, ↓reduceIte]; (try simp (disch := omega) only [wrap_i64, wrap_u64, wrap_u32, wrap_u8]))); (all_goals (try omega))
          · kernel_rfl
          · have h := spots (Γ := Γ) s hs (by omega) h12 hp12 (k + 3) (k + 1) (k + 2) p2 (by omega) (by omega) (by omega) (by omega)
            rw [← f3] at h
            exact h
          exact Mv.app (k + 3) (k + 2) ⟨by omega, by omega⟩ ⟨by omega, by omega⟩ (wk_low (by omega) (by simp -dsimp -implicitDefEqProofs only [go_sem, List.map_append, List.map_cons, List.map_nil, Flt.row, eq_self, ↓reduceIte]) (by simp -dsimp -implicitDefEqProofs only [go_sem, List.map_append, List.map_cons, List.map_nil, Flt.row, eq_self, ↓reduceIte]) (by simp -dsimp -implicitDefEqProofs only [go_sem, List.map_append, List.map_cons, List.map_nil, Flt.row, eq_self, ↓reduceIte]) (by simp -dsimp -implicitDefEqProofs only [go_sem, List.map_append, List.map_cons, List.map_nil, Flt.row, eq_self, ↓reduceIte]))
        simp -dsimp -implicitDefEqProofs only [go_sem, eq_self, ↓reduceIte]
        have f3' : p3 = partsA s := by rw [f3, f2, f1, partsA, List.append_assoc]
        clear f3 f2 f1
        (repeat' (first | (refine C_seq rfl ?_) | (refine C_block rfl ?_) | (refine C_skip rfl ?_; (try simp -dsimp -implicitDefEqProofs only [go_sem, eq_self, ↓reduceIte])) | (refine C_exit rfl ?_; (try simp -dsimp -implicitDefEqProofs only [go_sem, eq_self, ↓reduceIte])) | (refine C_cond rfl _ rfl (fun ht => ?_) (fun ht => ?_) <;> (try (simp only [nf] at ht)) <;> (try (exfalso; omega))) | ((first | (refine S_reg0 rfl [0,1,2,3,4,6,8,15,22,23,24,26,27,28,29,41] rfl rfl (fun K hK => ?_)) | (refine S_drw0 rfl [0,1,2,3,4,6,8,15,22,23,24,26,27,28,29,41] rfl (by kernel_rfl) rfl (fun K hK => ?_))); simp -dsimp -implicitDefEqProofs only [go_sem, eq_self, ↓reduceIte]; (repeat' (first | (refine And.intro ?_ ?_) | (refine gs_both (fun hb => ?_) (fun hb => ?_) <;> (have hg := hb; (try simp only [nfb] at hg); simp -dsimp -implicitDefEqProofs only [go_sem, hb, hg, eq_self, ↓reduceIte]; clear hb; (try simp only [nfe] at hg))))); any_goals ((first | (refine hK _ _ _ _ (fun hx => ?_)) | (refine hK _ _ _ _ (drawOk_names (fun i => i - k) (by simp only [List.map_cons, List.map_nil, shG, ↓reduceIte, Nat.add_sub_cancel_left, Nat.sub_self]; rfl) (by decide +kernel) (by simp -dsimp -implicitDefEqProofs only [go_sem, eq_self, ↓reduceIte])) (fun hx => ?_)) | (refine hK _ _ _ _ (drawOk_of (by kernel_rfl) (by simp -dsimp -implicitDefEqProofs only [go_sem, eq_self, ↓reduceIte])) (fun hx => ?_))); clear hx hK; simp -dsimp -implicitDefEqProofs only [go_sem, eq_self, ↓reduceIte]; (try simp (disch := omega) only [wrap_i64, wrap_u64, wrap_u32, wrap_u8]))) | omega))
        · refine ⟨p3, by rw [hchk, ← f3', if_pos (by omega)], ?_⟩
          exact Mv.wk (wk_low (by omega) (by simp -dsimp -implicitDefEqProofs only [go_sem, List.map_append, List.map_cons, List.map_nil, Flt.row, eq_self, ↓reduceIte]) (by simp -dsimp -implicitDefEqProofs only [go_sem, List.map_append, List.map_cons, List.map_nil, Flt.row, eq_self, ↓reduceIte]) (by simp -dsimp -implicitDefEqProofs only [go_sem, List.map_append, List.map_cons, List.map_nil, Flt.row, eq_self, ↓reduceIte]) (by simp -dsimp -implicitDefEqProofs only [go_sem, List.map_append, List.map_cons, List.map_nil, Flt.row, eq_self, ↓reduceIte]))
        · obtain rfl : p3 = [] := List.eq_nil_of_length_eq_zero (by omega)
          have hz2 : (partsA s).length = 0 := by rw [← f3']; rfl
          refine C_rounds rfl 2 ?_
          refine AM.rounds_succ ?_
          (repeat' (first | (refine C_seq rfl ?_) | (refine C_block rfl ?_) | (refine C_skip rfl ?_; (try simp -dsimp -implicitDefEqProofs only [go_sem, eq_self, ↓reduceIte])) | (refine C_exit rfl ?_; (try simp -dsimp -implicitDefEqProofs only [go_sem, eq_self, ↓reduceIte])) | (refine C_cond rfl _ rfl (fun ht => ?_) (fun ht => ?_) <;> (try (simp only [nf] at ht)) <;> (try (exfalso; omega))) | ((first | (refine S_reg0 rfl [0,1,2,3,4,6,8,15,22,23,24,26,27,28,29,41] rfl rfl (fun K hK => ?_)) | (refine S_drw0 rfl [0,1,2,3,4,6,8,15,22,23,24,26,27,28,29,41] rfl (by kernel_rfl) rfl (fun K hK => ?_))); simp -dsimp -implicitDefEqProofs only [go_sem, eq_self, ↓reduceIte]; (repeat' (first | (refine And.intro ?_ ?_) | (refine gs_both (fun hb => ?_) (fun hb => ?_) <;> (have hg := hb; (try simp only [nfb] at hg); simp -dsimp -implicitDefEqProofs only [go_sem, hb, hg, eq_self, ↓reduceIte]; clear hb; (try simp only [nfe] at hg))))); any_goals ((first | (refine hK _ _ _ _ (fun hx => ?_)) | (refine hK _ _ _ _ (drawOk_names (fun i => i - k) (by simp only [List.map_cons, List.map_nil, shG, ↓reduceIte, Nat.add_sub_cancel_left, Nat.sub_self]; rfl) (by decide +kernel) (by simp -dsimp -implicitDefEqProofs only [go_sem, eq_self, ↓reduceIte])) (fun hx => ?_)) | (refine hK _ _ _ _ (drawOk_of (by kernel_rfl) (by simp -dsimp -implicitDefEqProofs only [go_sem, eq_self, ↓reduceIte])) (fun hx => ?_))); clear hx hK; simp -dsimp -implicitDefEqProofs only [go_sem, eq_self, ↓reduceIte]; (try simp (disch := omega) only [wrap_i64, wrap_u64, wrap_u32, wrap_u8]))) | omega))
          obtain ⟨q1, u1, v1⟩ : ∃ x, x = floorsA s ∧ x.length ≤ 800 := ⟨_, rfl, floorsA_len s h12 r2⟩
          refine M_cutO [0,1,2,3,4,6,8,15,22,23,24,26,27,28,29,41] (k + 3) [] (LK (k + 1) (k + 2) s q1) ?_ ?_
          · refine S_reg rfl [0,1,2,3,4,6,8,15,22,23,24,26,27,28,29,41] [.gen (.tup []) (k + 4) (LK (k + 1) (k + 2) s []) (LK (k + 1) (k + 3) s q1)] rfl (fun K hK => ?_); simp -dsimp -implicitDefEqProofs only [go_sem, eq_self, ↓reduceIte]; (repeat' (first | (refine And.intro ?_ ?_) | (refine gs_both (fun hb => ?_) (fun hb => ?_) <;> (have hg := hb; (try simp only [nfb] at hg); simp -dsimp -implicitDefEqProofs only [go_sem, hb, hg, eq_self, ↓reduceIte]; clear hb; (try simp only [nfe] at hg))))); (any_goals ((refine hK _ _ _ _ (fun hx => ?_)); clear hx hK; simp -dsimp -implicitDefEqProofs only [go_sem, eq_self, ↓reduceIte]; (try simp (disch := omega) only [wrap_i64, wrap_u64, wrap_u32, wrap_u8]))); (all_goals (try omega))
            · kernel_rfl
            · have h := floors (Γ := Γ) s hs (hfl hcf hz hz2) (k + 3) (k + 1) (k + 2) [] (by omega) (by omega) (by omega) (by simp)
              rw [List.nil_append, ← u1] at h
              exact h
            exact Mv.app (k + 3) (k + 2) ⟨by omega, by omega⟩ ⟨by omega, by omega⟩ (wk_low (by omega) (by simp -dsimp -implicitDefEqProofs only [go_sem, List.map_append, List.map_cons, List.map_nil, Flt.row, eq_self, ↓reduceIte]) (by simp -dsimp -implicitDefEqProofs only [go_sem, List.map_append, List.map_cons, List.map_nil, Flt.row, eq_self, ↓reduceIte]) (by simp -dsimp -implicitDefEqProofs only [go_sem, List.map_append, List.map_cons, List.map_nil, Flt.row, eq_self, ↓reduceIte]) (by simp -dsimp -implicitDefEqProofs only [go_sem, List.map_append, List.map_cons, List.map_nil, Flt.row, eq_self, ↓reduceIte]))
          simp -dsimp -implicitDefEqProofs only [go_sem, eq_self, ↓reduceIte]
          (repeat' (first | (refine C_seq rfl ?_) | (refine C_block rfl ?_) | (refine C_skip rfl ?_; (try simp -dsimp -implicitDefEqProofs only [go_sem, eq_self, ↓reduceIte])) | (refine C_exit rfl ?_; (try simp -dsimp -implicitDefEqProofs only [go_sem, eq_self, ↓reduceIte])) | (refine C_cond rfl _ rfl (fun ht => ?_) (fun ht => ?_) <;> (try (simp only [nf] at ht)) <;> (try (exfalso; omega))) | ((first | (refine S_reg0 rfl [0,1,2,3,4,6,8,15,22,23,24,26,27,28,29,41] rfl rfl (fun K hK => ?_)) | (refine S_drw0 rfl [0,1,2,3,4,6,8,15,22,23,24,26,27,28,29,41] rfl (by kernel_rfl) rfl (fun K hK => ?_))); simp -dsimp -implicitDefEqProofs only [go_sem, eq_self, ↓reduceIte]; (repeat' (first | (refine And.intro ?_ ?_) | (refine gs_both (fun hb => ?_) (fun hb => ?_) <;> (have hg := hb; (try simp only [nfb] at hg); simp -dsimp -implicitDefEqProofs only [go_sem, hb, hg, eq_self, ↓reduceIte]; clear hb; (try simp only [nfe] at hg))))); any_goals ((first | (refine hK _ _ _ _ (fun hx => ?_)) | (refine hK _ _ _ _ (drawOk_names (fun i => i - k) (by simp only [List.map_cons, List.map_nil, shG, ↓reduceIte, Nat.add_sub_cancel_left, Nat.sub_self]; rfl) (by decide +kernel) (by simp -dsimp -implicitDefEqProofs only [go_sem, eq_self, ↓reduceIte])) (fun hx => ?_)) | (refine hK _ _ _ _ (drawOk_of (by kernel_rfl) (by simp -dsimp -implicitDefEqProofs only [go_sem, eq_self, ↓reduceIte])) (fun hx => ?_))); clear hx hK; simp -dsimp -implicitDefEqProofs only [go_sem, eq_self, ↓reduceIte]; (try simp (disch := omega) only [wrap_i64, wrap_u64, wrap_u32, wrap_u8]))) | omega))
          · refine ⟨q1, by rw [hchk, if_neg (by omega)]; exact u1, ?_⟩
            exact Mv.wk (wk_low (by omega) (by simp -dsimp -implicitDefEqProofs only [go_sem, List.map_append, List.map_cons, List.map_nil, Flt.row, eq_self, ↓reduceIte]) (by simp -dsimp -implicitDefEqProofs only [go_sem, List.map_append, List.map_cons, List.map_nil, Flt.row, eq_self, ↓reduceIte]) (by simp -dsimp -implicitDefEqProofs only [go_sem, List.map_append, List.map_cons, List.map_nil, Flt.row, eq_self, ↓reduceIte]) (by simp -dsimp -implicitDefEqProofs only [go_sem, List.map_append, List.map_cons, List.map_nil, Flt.row, eq_self, ↓reduceIte]))
          · refine ⟨q1, by rw [hchk, if_neg (by omega)]; exact u1, ?_⟩
            exact Mv.wk (wk_low (by omega) (by simp -dsimp -implicitDefEqProofs only [go_sem, List.map_append, List.map_cons, List.map_nil, Flt.row, eq_self, ↓reduceIte]) (by simp -dsimp -implicitDefEqProofs only [go_sem, List.map_append, List.map_cons, List.map_nil, Flt.row, eq_self, ↓reduceIte]) (by simp -dsimp -implicitDefEqProofs only [go_sem, List.map_append, List.map_cons, List.map_nil, Flt.row, eq_self, ↓reduceIte]) (by simp -dsimp -implicitDefEqProofs only [go_sem, List.map_append, List.map_cons, List.map_nil, Flt.row, eq_self, ↓reduceIte]))
    · intro l hl
      have hb' := hb hcf
      have hp' := hp hcf
      rw [← hl] at hb' hp'
      have hll : l.length ≤ 100000 := by
        rw [hl]
        have h1 := shapeA_len s h12
        have h2 := clocksA_len s hs
        have h3 := tasksA_len s hs
        have h4 := spotsA_len s hq
        have h5 := floorsA_len s h12 r2
        unfold checkA partsA
        split
        · omega
        · split
          · simp only [List.length_append]; omega
          · omega
      simp -dsimp -implicitDefEqProofs only [go_sem, eq_self, ↓reduceIte]
      (repeat' (first | (refine C_seq rfl ?_) | (refine C_block rfl ?_) | (refine C_skip rfl ?_; (try simp -dsimp -implicitDefEqProofs only [go_sem, eq_self, ↓reduceIte])) | (refine C_exit rfl ?_; (try simp -dsimp -implicitDefEqProofs only [go_sem, eq_self, ↓reduceIte])) | (refine C_cond rfl _ rfl (fun ht => ?_) (fun ht => ?_) <;> (try (simp only [nf] at ht)) <;> (try (exfalso; omega))) | ((first | (refine S_reg0 rfl [0,1,2,3,4,6,8,15,22,23,24,26,27,28,29,41] rfl rfl (fun K hK => ?_)) | (refine S_drw0 rfl [0,1,2,3,4,6,8,15,22,23,24,26,27,28,29,41] rfl (by kernel_rfl) rfl (fun K hK => ?_))); simp -dsimp -implicitDefEqProofs only [go_sem, eq_self, ↓reduceIte]; (repeat' (first | (refine And.intro ?_ ?_) | (refine gs_both (fun hb => ?_) (fun hb => ?_) <;> (have hg := hb; (try simp only [nfb] at hg); simp -dsimp -implicitDefEqProofs only [go_sem, hb, hg, eq_self, ↓reduceIte]; clear hb; (try simp only [nfe] at hg))))); any_goals ((first | (refine hK _ _ _ _ (fun hx => ?_)) | (refine hK _ _ _ _ (drawOk_names (fun i => i - k) (by simp only [List.map_cons, List.map_nil, shG, ↓reduceIte, Nat.add_sub_cancel_left, Nat.sub_self]; rfl) (by decide +kernel) (by simp -dsimp -implicitDefEqProofs only [go_sem, eq_self, ↓reduceIte])) (fun hx => ?_)) | (refine hK _ _ _ _ (drawOk_of (by kernel_rfl) (by simp -dsimp -implicitDefEqProofs only [go_sem, eq_self, ↓reduceIte])) (fun hx => ?_))); clear hx hK; simp -dsimp -implicitDefEqProofs only [go_sem, eq_self, ↓reduceIte]; (try simp (disch := omega) only [wrap_i64, wrap_u64, wrap_u32, wrap_u8]))) | omega))
      refine S_reg rfl [0,1,2,3,4,6,8,15,22,23,24,26,27,28,29,41] [.gen (accV (k + 2) (R.map Flt.row)) (k + 3) (LK (k + 1) (k + 2) s l) (LK (k + 1) (k + 2) s R)] rfl (fun K hK => ?_); simp -dsimp -implicitDefEqProofs only [go_sem, eq_self, ↓reduceIte]; (repeat' (first | (refine And.intro ?_ ?_) | (refine gs_both (fun hb => ?_) (fun hb => ?_) <;> (have hg := hb; (try simp only [nfb] at hg); simp -dsimp -implicitDefEqProofs only [go_sem, hb, hg, eq_self, ↓reduceIte]; clear hb; (try simp only [nfe] at hg))))); (any_goals ((refine hK _ _ _ _ (fun hx => ?_)); clear hx hK; simp -dsimp -implicitDefEqProofs only [go_sem, eq_self, ↓reduceIte]; (try simp (disch := omega) only [wrap_i64, wrap_u64, wrap_u32, wrap_u8]))); (all_goals (try omega))
      · exact sorted (k + 3) (k + 1) (k + 2) s l R (by omega) (by omega) (by omega) hb' hp' (hso hcf) hll
      refine M_racc rfl (id := k + 2) (s := 3) (l := List.map Flt.row R) 2 (by simp -dsimp -implicitDefEqProofs only [go_sem, List.map_append, List.map_cons, List.map_nil, Flt.row, eq_self, ↓reduceIte]) (by simp -dsimp -implicitDefEqProofs only [go_sem, List.map_append, List.map_cons, List.map_nil, Flt.row, eq_self, ↓reduceIte]) ?_
      exact ⟨_, rfl, VLe.refl _⟩
end Go.Proofs.T
end

section
set_option linter.unusedVariables false
set_option linter.unusedSimpArgs false
namespace Go.Proofs.T
open Go Go.AM Go.Proofs
set_option linter.unusedSimpArgs false
set_option linter.unusedVariables false
theorem flats_congr {f g : Nat → List Flt} : ∀ {n : Nat}, (∀ i, i < n → f i = g i) → flats f n = flats g n
  | 0, _ => rfl
  | n + 1, h => by rw [flats_succ, flats_succ, flats_congr (fun i hi => h i (by omega)), h n (by omega)]
theorem flats_perm {f g : Nat → List Flt} : ∀ {n : Nat}, (∀ i, i < n → (f i).Perm (g i)) → (flats f n).Perm (flats g n)
  | 0, _ => List.Perm.refl _
  | n + 1, h => (flats_perm (fun i hi => h i (by omega))).append (h n (by omega))
theorem flats_empty {n : Nat} : flats (fun _ => []) n = [] := by
  induction n with
  | zero => rfl
  | succ n ih => rw [flats_succ, ih]; rfl
theorem perm_four {α : Type} (a b c d : List α) : ((a ++ b) ++ (c ++ d)).Perm ((a ++ c) ++ (b ++ d)) := by
  rw [List.append_assoc, List.append_assoc]
  refine List.Perm.append_left a ?_
  rw [← List.append_assoc, ← List.append_assoc]
  exact List.Perm.append_right d List.perm_append_comm
theorem flats_add {f g : Nat → List Flt} : ∀ {n : Nat}, (flats (fun i => f i ++ g i) n).Perm (flats f n ++ flats g n)
  | 0 => List.Perm.refl _
  | n + 1 => ((flats_add (f := f) (g := g) (n := n)).append_right _).trans (perm_four _ _ _ _)
theorem flats_comm {f : Nat → Nat → List Flt} {m : Nat} : ∀ {n : Nat}, (flats (fun i => flats (f i) m) n).Perm (flats (fun j => flats (fun i => f i j) n) m)
  | 0 => by
    show List.Perm [] (flats (fun j => []) m)
    rw [flats_empty]
  | n + 1 => by
    rw [flats_succ]
    exact ((flats_comm (f := f) (m := m) (n := n)).append_right _).trans (flats_add (f := fun j => flats (fun i => f i j) n) (g := f n)).symm
theorem flats_front {f : Nat → List Flt} : ∀ {n : Nat}, flats f (n + 1) = f 0 ++ flats (fun i => f (i + 1)) n
  | 0 => by simp [flats]
  | n + 1 => by rw [flats_succ, flats_front, flats_succ, List.append_assoc]
theorem flats_rev {f : Nat → List Flt} : ∀ {n : Nat}, (flats (fun j => f (n - 1 - j)) n).Perm (flats f n)
  | 0 => List.Perm.refl _
  | n + 1 => by
    rw [flats_front, flats_succ]
    have : flats (fun i => f (n + 1 - 1 - (i + 1))) n = flats (fun j => f (n - 1 - j)) n := flats_congr fun i hi => by
      show f _ = f _
      congr 1; omega
    rw [this]
    exact ((flats_rev (f := f) (n := n)).append_left _).trans List.perm_append_comm
theorem mem_flats {f : Nat → List Flt} {x : Flt} : ∀ {n : Nat}, x ∈ flats f n ↔ ∃ i, i < n ∧ x ∈ f i
  | 0 => by simp [flats]
  | n + 1 => by
    rw [flats_succ, List.mem_append, mem_flats]
    constructor
    · rintro (⟨i, h1, h2⟩ | h)
      · exact ⟨i, by omega, h2⟩
      · exact ⟨n, by omega, h⟩
    · rintro ⟨i, h1, h2⟩
      by_cases he : i = n
      · subst he; exact .inr h2
      · exact .inl ⟨i, by omega, h2⟩
theorem mem_iff1 {b : Bool} {f x : Flt} : x ∈ iff1 b f ↔ b = true ∧ x = f := by cases b <;> simp [iff1]
theorem flats_sorted {R : Flt → Flt → Prop} {f : Nat → List Flt} : ∀ {n : Nat}, (∀ i, i < n → (f i).Pairwise R) → (∀ i j, i < j → j < n → ∀ x ∈ f i, ∀ y ∈ f j, R x y) → (flats f n).Pairwise R
  | 0, _, _ => List.Pairwise.nil
  | n + 1, h1, h2 => by
    rw [flats_succ, List.pairwise_append]
    refine ⟨flats_sorted (fun i hi => h1 i (by omega)) (fun i j hij hj => h2 i j hij (by omega)), h1 n (by omega), fun x hx y hy => ?_⟩
    obtain ⟨i, hi, hx⟩ := mem_flats.1 hx
    exact h2 i n hi (by omega) x hx y hy
theorem iff1_sorted {R : Flt → Flt → Prop} {b : Bool} {f : Flt} : (iff1 b f).Pairwise R := by cases b <;> simp [iff1]
def leF (x y : Flt) : Prop := ¬ (y.r < x.r ∨ (y.r = x.r ∧ (y.a < x.a ∨ (y.a = x.a ∧ y.b < x.b))))
theorem mask_wide (m : Nat) (c : Nat) (hm : m < 2 ^ 64) (hc : c ≤ 64) : 0 < m / 2 ^ c ↔ ∃ i, i < 64 ∧ c ≤ i ∧ m / 2 ^ i % 2 = 1 := by
  constructor
  · intro h
    obtain ⟨i, hi⟩ := Nat.exists_testBit_of_ne_zero (x := m / 2 ^ c) (by omega)
    rw [Nat.testBit_div_two_pow] at hi
    have hlt : i + c < 64 := by
      rcases Nat.lt_or_ge (i + c) 64 with h | h
      · exact h
      · rw [Nat.testBit_lt_two_pow (Nat.lt_of_lt_of_le hm (Nat.pow_le_pow_right (by omega) h))] at hi
        cases hi
    refine ⟨i + c, hlt, by omega, ?_⟩
    rw [Nat.testBit_eq_decide_div_mod_eq] at hi
    exact of_decide_eq_true hi
  · rintro ⟨i, h1, h2, h3⟩
    have h4 : 2 ^ c ≤ 2 ^ i := Nat.pow_le_pow_right (by omega) h2
    have h5 : m / 2 ^ i ≤ m / 2 ^ c := Nat.div_le_div_left h4 (Nat.two_pow_pos c)
    have h6 : m / 2 ^ i ≠ 0 := fun h => by rw [h] at h3; cases h3
    exact Nat.lt_of_lt_of_le (Nat.pos_of_ne_zero h6) h5
theorem div_nat (m c : Nat) : ((m : Int) / 2 ^ c) = ((m / 2 ^ c : Nat) : Int) := by
  have : ((2 : Int) ^ c) = ((2 ^ c : Nat) : Int) := by simp
  rw [this]; rfl
theorem bitB_nat (m c : Nat) : bitB (m : Int) c = decide (m / 2 ^ c % 2 = 1) := by
  unfold bitB
  rw [div_nat]
  congr 1
  apply propext
  omega
theorem fdiv_nat (m c : Nat) : ((m : Int).fdiv (2 ^ c)) = ((m / 2 ^ c : Nat) : Int) := by
  rw [Int.fdiv_eq_ediv_of_nonneg _ (by have : ((2 : Int) ^ c) = ((2 ^ c : Nat) : Int) := by simp
                                       rw [this]; exact Int.natCast_nonneg _), div_nat]
theorem t8_eq (s : St) (hw : Wf s) (i : Nat) (h0 : 0 ≤ s.cpus) (h1 : s.cpus ≤ 64) : t8 s i = r8 s i := by
  obtain ⟨m, hm⟩ := Int.eq_ofNat_of_zero_le (hw.mask0 i)
  obtain ⟨n, hn⟩ := Int.eq_ofNat_of_zero_le h0
  have hb := hw.mask1 i
  have key := mask_wide m n (by omega) (by omega)
  have hmin : min (n : Int).toNat 64 = n := by omega
  rw [Bool.eq_iff_iff]
  unfold t8 r8 shr
  rw [anyB_iff, hm, hn, hmin, fdiv_nat]
  simp only [wideB, Bool.and_eq_true, decide_eq_true_eq, hm, hn, bitB_nat]
  constructor
  · rintro ⟨h2, h3⟩
    obtain ⟨j, j1, j2, j3⟩ := key.1 (by omega)
    exact ⟨j, j1, by omega, j3⟩
  · rintro ⟨j, j1, j2, j3⟩
    have := key.2 ⟨j, j1, by omega, j3⟩
    exact ⟨by omega, by omega⟩
theorem and1_nat (m : Nat) (hm : m < 2 ^ 64) : and1 (m : Int) = ((m % 2 : Nat) : Int) := by
  unfold and1
  have h1 : (BitVec.ofInt IntKind.u64.bits (m : Int) &&& BitVec.ofInt IntKind.u64.bits 1).toNat = m % 2 := by
    show (BitVec.ofInt 64 (m : Int) &&& BitVec.ofInt 64 1).toNat = m % 2
    rw [BitVec.toNat_and, BitVec.ofInt_natCast, BitVec.toNat_ofNat, Nat.mod_eq_of_lt hm]
    show m &&& 1 = m % 2
    exact Nat.and_one_is_mod m
  rw [h1]
  exact wrap_u64 (by omega) (by omega)
theorem t9_eq (s : St) (hw : Wf s) (i : Nat) (h1 : s.cpus ≤ 64) : t9 s i = r9 s i := by
  unfold t9 r9
  by_cases ho : onB s i = true
  · rw [ho, Bool.true_and, Bool.true_and]
    have ho' : 0 ≤ (s.tsk i).cpu ∧ (s.tsk i).cpu < s.cpus := by simpa [onB] using ho
    obtain ⟨m, hm⟩ := Int.eq_ofNat_of_zero_le (hw.mask0 i)
    obtain ⟨n, hn⟩ := Int.eq_ofNat_of_zero_le ho'.1
    have hb := hw.mask1 i
    have e1 : max0 (n : Int) = n := by unfold max0; rw [if_neg (by omega)]
    have e2 : min (n : Int).toNat 64 = n := by omega
    unfold shr
    rw [hm, hn, e1, e2, fdiv_nat, and1_nat _ (Nat.lt_of_le_of_lt (Nat.div_le_self _ _) (by omega)), Int.toNat_natCast, bitB_nat]
    rcases Nat.mod_two_eq_zero_or_one (m / 2 ^ n) with h | h <;> rw [h] <;> rfl
  · rw [Bool.not_eq_true] at ho
    rw [ho]; rfl
end Go.Proofs.T
end

section
set_option linter.unusedVariables false
set_option linter.unusedSimpArgs false
namespace Go.Proofs.T
open Go Go.AM Go.Proofs
set_option linter.unusedSimpArgs false
set_option linter.unusedVariables false
def OMin (o : Option Int) (P : Int → Prop) : Prop := match o with
  | none => ∀ x, ¬ P x
  | some m => P m ∧ ∀ x, P x → m ≤ x
theorem OMin.congr {o : Option Int} {P Q : Int → Prop} (h : OMin o P) (hq : ∀ x, P x ↔ Q x) : OMin o Q := by
  have : P = Q := funext fun x => propext (hq x)
  rwa [← this]
theorem OMin.some_iff {o : Option Int} {P : Int → Prop} (h : OMin o P) : o.isSome = true ↔ ∃ x, P x := by
  cases o with
  | none => simp only [Option.isSome_none, Bool.false_eq_true, false_iff, not_exists]; exact h
  | some m => simp only [Option.isSome_some, true_iff]; exact ⟨m, h.1⟩
theorem low_min {f : Nat → Option Int} {g h : Nat} {v : Int} {P : Int → Prop} (hf : OMin (f h) P) : OMin (low f g v h) (fun x => P x ∨ (g = h ∧ x = v)) := by
  by_cases he : h = g
  · subst he
    cases ho : f h with
    | none =>
      rw [ho] at hf
      have : low f h v h = some v := by simp [low, ho, put]
      rw [this]
      refine ⟨.inr ⟨rfl, rfl⟩, fun x hx => ?_⟩
      rcases hx with hx | ⟨_, hx⟩
      · exact absurd hx (hf x)
      · omega
    | some m =>
      rw [ho] at hf
      by_cases hv : v < m
      · have : low f h v h = some v := by simp [low, ho, put, hv]
        rw [this]
        refine ⟨.inr ⟨rfl, rfl⟩, fun x hx => ?_⟩
        rcases hx with hx | ⟨_, hx⟩
        · have := hf.2 x hx; omega
        · omega
      · have : low f h v h = some m := by simp [low, ho, put, hv]
        rw [this]
        refine ⟨.inl hf.1, fun x hx => ?_⟩
        rcases hx with hx | ⟨_, hx⟩
        · exact hf.2 x hx
        · omega
  · have : low f g v h = f h := by
      unfold low
      cases f g with
      | none => simp [put, he]
      | some u => by_cases hv : v < u <;> simp [put, he, hv]
    rw [this]
    exact hf.congr fun x => ⟨.inl, fun hx => hx.elim id fun hx => absurd hx.1.symm he⟩
theorem fT_min (s : St) (c : Int) (h : Nat) : ∀ n, OMin (fT s c n h) (fun x => ∃ i, i < n ∧ takes s c i = true ∧ (s.tsk i).group.toNat = h ∧ x = (s.tsk i).v)
  | 0 => fun x hx => by obtain ⟨i, hi, _⟩ := hx; omega
  | n + 1 => by
    have ih := fT_min s c h n
    rw [fT]
    by_cases ht : takes s c n = true
    · rw [if_pos ht]
      refine (low_min (g := (s.tsk n).group.toNat) (v := (s.tsk n).v) ih).congr fun x => ?_
      constructor
      · rintro (⟨i, h1, h2⟩ | ⟨h1, h2⟩)
        · exact ⟨i, by omega, h2⟩
        · exact ⟨n, by omega, ht, h1, h2⟩
      · rintro ⟨i, h1, h2, h3, h4⟩
        by_cases he : i = n
        · subst he; exact .inr ⟨h3, h4⟩
        · exact .inl ⟨i, by omega, h2, h3, h4⟩
    · rw [if_neg ht]
      refine ih.congr fun x => ?_
      constructor
      · rintro ⟨i, h1, h2⟩
        exact ⟨i, by omega, h2⟩
      · rintro ⟨i, h1, h2, h3⟩
        by_cases he : i = n
        · subst he; exact absurd h2 ht
        · exact ⟨i, by omega, h2, h3⟩
def into (s : St) (c j h : Nat) (x : Int) : Prop :=
  (∃ i, i < s.nt ∧ takes s c i = true ∧ (s.tsk i).group.toNat = h ∧ x = (s.tsk i).v) ∨
  (∃ q, q < j ∧ 0 < s.ns - 1 - q ∧ (dF s c q (s.ns - 1 - q)).isSome = true ∧ (s.par (s.ns - 1 - q)).toNat = h ∧ x = (s.sp (s.ns - 1 - q) c).v)
theorem dF_min (s : St) (c h : Nat) : ∀ j, OMin (dF s c j h) (into s c j h)
  | 0 => (fT_min s c h s.nt).congr fun x => ⟨.inl, fun hx => hx.elim id fun ⟨q, hq, _⟩ => absurd hq (Nat.not_lt_zero _)⟩
  | j + 1 => by
    have ih := dF_min s c h j
    rw [dF, stepF]
    have mono : ∀ x, into s c j h x → into s c (j + 1) h x := fun x hx => hx.elim .inl fun ⟨q, hq, r⟩ => .inr ⟨q, by omega, r⟩
    cases hm : dF s c j (s.ns - 1 - j) with
    | none =>
      have hn := hm
      refine ih.congr fun x => ⟨mono x, ?_⟩
      rintro (hx | ⟨q, hq, h1, h2, h3⟩)
      · exact .inl hx
      · by_cases he : q = j
        · subst he; rw [hn] at h2; cases h2
        · exact .inr ⟨q, by omega, h1, h2, h3⟩
    | some m =>
      simp only
      by_cases hg : 0 < s.ns - 1 - j
      · rw [if_pos hg]
        refine (low_min ih).congr fun x => ⟨?_, ?_⟩
        · rintro (hx | ⟨h1, h2⟩)
          · exact mono x hx
          · exact .inr ⟨j, by omega, hg, by rw [hm]; rfl, h1, h2⟩
        · rintro (hx | ⟨q, hq, h1, h2, h3, h4⟩)
          · exact .inl (.inl hx)
          · by_cases he : q = j
            · subst he; exact .inr ⟨h3, h4⟩
            · exact .inl (.inr ⟨q, by omega, h1, h2, h3, h4⟩)
      · rw [if_neg hg]
        refine ih.congr fun x => ⟨mono x, ?_⟩
        rintro (hx | ⟨q, hq, h1, h2, h3⟩)
        · exact .inl hx
        · by_cases he : q = j
          · subst he; exact absurd h1 hg
          · exact .inr ⟨q, by omega, h1, h2, h3⟩
theorem mem_flatM {f : Nat → List Mem} {x : Mem} : ∀ {n : Nat}, x ∈ flatM f n ↔ ∃ i, i < n ∧ x ∈ f i
  | 0 => by simp [flatM]
  | n + 1 => by
    rw [flatM_succ, List.mem_append, mem_flatM]
    constructor
    · rintro (⟨i, h1, h2⟩ | h)
      · exact ⟨i, by omega, h2⟩
      · exact ⟨n, by omega, h⟩
    · rintro ⟨i, h1, h2⟩
      by_cases he : i = n
      · subst he; exact .inr h2
      · exact .inl ⟨i, by omega, h2⟩
theorem mem_ifM {b : Bool} {f x : Mem} : x ∈ ifM b f ↔ b = true ∧ x = f := by cases b <;> simp [ifM]
theorem memT_iff (s : St) (hk : FloorOk s) (g c : Nat) (x : Int) : (∃ m ∈ flatM (memT s g c) s.nt, m.v = x) ↔ ∃ i, i < s.nt ∧ takes s c i = true ∧ (s.tsk i).group.toNat = g ∧ x = (s.tsk i).v := by
  constructor
  · rintro ⟨m, hm, rfl⟩
    obtain ⟨i, hi, hm⟩ := mem_flatM.1 hm
    obtain ⟨h1, rfl⟩ := mem_ifM.1 hm
    simp only [inQ, Bool.and_eq_true, decide_eq_true_eq] at h1
    exact ⟨i, hi, by simp [takes, h1], by omega, rfl⟩
  · rintro ⟨i, hi, h1, h2, rfl⟩
    simp only [takes, Bool.and_eq_true, decide_eq_true_eq] at h1
    have := hk.grp i hi
    exact ⟨_, mem_flatM.2 ⟨i, hi, mem_ifM.2 ⟨by simp only [inQ, Bool.and_eq_true, decide_eq_true_eq]; exact ⟨h1.1, by omega, h1.2⟩, rfl⟩⟩, rfl⟩
theorem mems_iff (s : St) (hk : FloorOk s) (c : Nat) : ∀ (f g : Nat), g < s.ns → s.ns - g ≤ f + 1 → ∀ x, (∃ m ∈ memF s c f g, m.v = x) ↔ into s c (s.ns - 1 - g) g x
  | 0, g, hg, hf, x => by
    have e : s.ns - 1 - g = 0 := by omega
    rw [memF, memT_iff s hk, e]
    exact ⟨.inl, fun hx => hx.elim id fun ⟨q, hq, _⟩ => absurd hq (Nat.not_lt_zero _)⟩
  | f + 1, g, hg, hf, x => by
    have ih := mems_iff s hk c f
    have hT := memT_iff s hk g c x
    have sub : ∀ h, h < s.ns → g < h → ((memF s c f h).isEmpty = false ↔ (dF s c (s.ns - 1 - h) h).isSome = true) := fun h h1 h2 => by
      rw [(dF_min s c h (s.ns - 1 - h)).some_iff]
      constructor
      · intro he
        cases hl : memF s c f h with
        | nil => rw [hl] at he; cases he
        | cons m l => exact ⟨m.v, (ih h h1 (by omega) m.v).1 ⟨m, by rw [hl]; simp, rfl⟩⟩
      · rintro ⟨y, hy⟩
        obtain ⟨m, hm, _⟩ := (ih h h1 (by omega) y).2 hy
        cases hl : memF s c f h with
        | nil => rw [hl] at hm; cases hm
        | cons m l => rfl
    rw [memF_succ]
    constructor
    · rintro ⟨m, hm, hv⟩
      rcases List.mem_append.1 hm with hm | hm
      · exact .inl (hT.1 ⟨m, hm, hv⟩)
      · obtain ⟨h, h1, hm⟩ := mem_flatM.1 hm
        obtain ⟨h2, rfl⟩ := mem_ifM.1 hm
        simp only [Bool.and_eq_true, decide_eq_true_eq, Bool.not_eq_true'] at h2
        obtain ⟨⟨h3, h4⟩, h5⟩ := h2
        have hp := hk.par h h3 h1
        have hs := (sub h h1 (by omega)).1 h5
        have e : s.ns - 1 - (s.ns - 1 - h) = h := by omega
        refine .inr ⟨s.ns - 1 - h, by omega, by omega, ?_, ?_, ?_⟩
        · rw [e]; exact hs
        · rw [e]; omega
        · rw [e]; exact hv.symm
    · rintro (hx | ⟨q, hq, h1, h2, h3, h4⟩)
      · obtain ⟨m, hm, hv⟩ := hT.2 hx
        exact ⟨m, List.mem_append_left _ hm, hv⟩
      · obtain ⟨h, eh⟩ : ∃ h, h = s.ns - 1 - q := ⟨_, rfl⟩
        rw [← eh] at h1 h2 h3 h4
        have hp := hk.par h h1 (by omega)
        have hq' : q = s.ns - 1 - h := by omega
        rw [hq'] at h2
        refine ⟨⟨(s.sp h c).v, 1, (h : Int)⟩, List.mem_append_right _ (mem_flatM.2 ⟨h, by omega, mem_ifM.2 ⟨?_, rfl⟩⟩), h4.symm⟩
        simp only [Bool.and_eq_true, decide_eq_true_eq, Bool.not_eq_true']
        exact ⟨⟨h1, by omega⟩, (sub h (by omega) (by omega)).2 h2⟩
theorem cntB_all {f : Nat → Bool} : ∀ {n : Nat}, cntB f n = n ↔ ∀ i, i < n → f i = true
  | 0 => ⟨fun _ i hi => by omega, fun _ => rfl⟩
  | n + 1 => by
    have h1 := cntB_le f n
    have ih := cntB_all (f := f) (n := n)
    rw [cntB]
    by_cases hf : f n = true
    · rw [hf]
      constructor
      · intro h i hi
        by_cases he : i = n
        · subst he; exact hf
        · exact ih.1 (by simp at h; omega) i (by omega)
      · intro h
        have := ih.2 fun i hi => h i (by omega)
        simp; omega
    · rw [Bool.not_eq_true] at hf
      rw [hf]
      constructor
      · intro h; simp at h; omega
      · intro h; have := h n (by omega); rw [hf] at this; cases this
theorem floor_eq (s : St) (hk : FloorOk s) (g c : Nat) (hg : g < s.ns) : floorJ s c (s.ns - 1 - g) = flrAt s g c := by
  have e : s.ns - 1 - (s.ns - 1 - g) = g := by omega
  have hm := dF_min s c g (s.ns - 1 - g)
  have hi := mems_iff s hk c s.ns g hg (by omega)
  have hall : ∀ l : List Mem, cntB (belowB s g c l) l.length = l.length ↔ ∀ m ∈ l, (s.sp g c).floor < m.v := fun l => by
    rw [cntB_all]
    constructor
    · intro h m hm
      obtain ⟨i, hi, rfl⟩ := List.getElem_of_mem hm
      have := h i hi
      simpa [belowB, memV, List.getD_eq_getElem?_getD, List.getElem?_eq_getElem hi] using this
    · intro h i hi
      have := h l[i] (List.getElem_mem hi)
      simpa [belowB, memV, List.getD_eq_getElem?_getD, List.getElem?_eq_getElem hi] using this
  unfold floorJ stepL flrAt
  rw [e]
  cases hd : dF s c (s.ns - 1 - g) g with
  | none =>
    rw [hd] at hm
    have : memF s c s.ns g = [] := by
      cases hl : memF s c s.ns g with
      | nil => rfl
      | cons m l => exact absurd ((hi m.v).1 ⟨m, by rw [hl]; simp, rfl⟩) (hm m.v)
    rw [this]
    simp [iff1]
  | some v =>
    rw [hd] at hm
    simp only
    congr 1
    rw [Bool.eq_iff_iff, decide_eq_true_eq, decide_eq_true_eq, hall]
    constructor
    · intro h
      obtain ⟨m, hm1, hm2⟩ := (hi v).2 hm.1
      refine ⟨List.length_pos_of_mem hm1, fun m' hm' => ?_⟩
      have := hm.2 m'.v ((hi m'.v).1 ⟨m', hm', rfl⟩)
      omega
    · rintro ⟨_, h⟩
      obtain ⟨m, hm1, hm2⟩ := (hi v).2 hm.1
      have := h m hm1
      omega
theorem floors_perm (s : St) (hk : FloorOk s) : (floorsL s).Perm (floorsA s) := by
  unfold floorsL floorsA flrR floorsAt
  refine flats_comm.trans (flats_perm fun c hc => ?_)
  refine List.Perm.trans ?_ (flats_rev (f := floorJ s c) (n := s.ns))
  rw [flats_congr (f := fun g => flrAt s g c) (g := fun g => floorJ s c (s.ns - 1 - g)) fun g hg => (floor_eq s hk g c hg).symm]
end Go.Proofs.T
end

section
set_option linter.unusedVariables false
set_option linter.unusedSimpArgs false
namespace Go.Proofs.T
open Go Go.AM Go.Proofs
set_option linter.unusedSimpArgs false
set_option linter.unusedVariables false
theorem taskAt_eq (s : St) (hw : Wf s) (i : Nat) (h0 : 0 ≤ s.cpus) (h1 : s.cpus ≤ 64) : taskAt s i = flats (fun r => brkAt s r i) 7 := by
  have e8 := t8_eq s hw i h0 h1
  have e9 := t9_eq s hw i h1
  simp [flats, brkAt, brk, taskAt, List.append_assoc, e8, e9]
theorem tasks_perm (s : St) (hw : Wf s) (h0 : 0 ≤ s.cpus) (h1 : s.cpus ≤ 64) : (flats (brkR s) 7).Perm (tasksA s) := by
  unfold tasksA brkR
  rw [flats_congr (f := taskAt s) (g := fun i => flats (fun r => brkAt s r i) 7) fun i _ => taskAt_eq s hw i h0 h1]
  exact flats_comm
theorem spots_eq (s : St) (hw : Wf s) (hv : ∀ g c, 0 ≤ (s.sp g c).v) (hp : PartOk s) : spotsA s = flats (rootAt s) s.cpus.toNat ++ flats (sptR s) s.ns := by
  obtain ⟨n, hn⟩ : ∃ n, s.ns = n + 1 := ⟨s.ns - 1, by have := hp.ns1; omega⟩
  unfold spotsA
  have h0 : s.nsp 0 = s.cpus.toNat := by have := hp.sp 0 (by omega); omega
  rw [hn, flats_front, flats_front]
  have e0 : sptR s 0 = [] := rfl
  rw [e0, List.nil_append]
  congr 1
  · unfold spotsAt
    rw [h0]
    refine flats_congr fun c hc => ?_
    unfold spotAt rootAt
    rw [if_pos rfl]
    congr 1
    have := hv 0 c
    have := hw.sr 0 c
    rw [Bool.eq_iff_iff, decide_eq_true_eq, decide_eq_true_eq]
    omega
theorem parts_perm (s : St) (hw : Wf s) (hv : ∀ g c, 0 ≤ (s.sp g c).v) (hp : PartOk s) : (partsL s).Perm (clocksA s ++ (tasksA s ++ spotsA s)) := by
  have hT := tasks_perm s hw hp.c0 hp.c1
  have hnu : s.cpus.toNat = s.nu := by have := hp.nu; omega
  rw [spots_eq s hw hv hp]
  unfold partsL clocksA
  rw [hnu]
  have hc := List.perm_iff_count.1 hT
  rw [List.perm_iff_count]
  intro a
  have := hc a
  simp only [List.count_append]
  omega
theorem leF_r {x y : Flt} (h : x.r < y.r) : leF x y := by unfold leF; omega
theorem leF_a {x y : Flt} (h : x.r = y.r) (h1 : x.a < y.a) : leF x y := by unfold leF; omega
theorem leF_b {x y : Flt} (h : x.r = y.r) (h1 : x.a = y.a) (h2 : x.b ≤ y.b) : leF x y := by unfold leF; omega
theorem mem_shapeAt {s : St} {g : Nat} {x : Flt} (h : x ∈ shapeAt s g) : x = ⟨2, 3, g⟩ := by
  unfold shapeAt at h; split at h <;> simp at h; exact h
theorem mem_cl {s : St} {n : Nat} {x : Flt} (h : x ∈ flats (clockAt s) n) : x.r = 3 ∧ (0 ≤ x.a ∧ x.a < n) ∧ x.b = 0 := by
  obtain ⟨i, hi, h⟩ := mem_flats.1 h
  obtain ⟨_, rfl⟩ := mem_iff1.1 h
  exact ⟨rfl, by simp only; omega, rfl⟩
theorem mem_cu {s : St} {n : Nat} {x : Flt} (h : x ∈ flats (curAt s) n) : x.r = 13 ∧ (0 ≤ x.a ∧ x.a < n) ∧ x.b = 0 := by
  obtain ⟨i, hi, h⟩ := mem_flats.1 h
  obtain ⟨_, rfl⟩ := mem_iff1.1 h
  exact ⟨rfl, by simp only; omega, rfl⟩
theorem mem_rt {s : St} {n : Nat} {x : Flt} (h : x ∈ flats (rootAt s) n) : x.r = 12 ∧ (0 ≤ x.a ∧ x.a < n) ∧ x.b = 0 := by
  obtain ⟨i, hi, h⟩ := mem_flats.1 h
  obtain ⟨_, rfl⟩ := mem_iff1.1 h
  exact ⟨rfl, by simp only; omega, rfl⟩
theorem mem_br {s : St} {r : Nat} {x : Flt} (h : x ∈ brkR s r) : x.r = r + 4 ∧ (0 ≤ x.a ∧ x.a < s.nt) ∧ x.b = 0 := by
  obtain ⟨i, hi, h⟩ := mem_flats.1 h
  obtain ⟨_, rfl⟩ := mem_iff1.1 h
  exact ⟨rfl, by simp only; omega, rfl⟩
theorem mem_sp {s : St} {g : Nat} {x : Flt} (h : x ∈ sptR s g) : x.r = 11 ∧ x.a = g ∧ (0 ≤ x.b ∧ x.b < s.nsp g) := by
  unfold sptR at h
  split at h
  · cases h
  obtain ⟨i, hi, h⟩ := mem_flats.1 h
  obtain ⟨_, rfl⟩ := mem_iff1.1 h
  exact ⟨rfl, rfl, by simp only; omega⟩
theorem mem_fl {s : St} {g : Nat} {x : Flt} (h : x ∈ flrR s g) : x.r = 14 ∧ x.a = g ∧ (0 ≤ x.b ∧ x.b < s.cpus.toNat) := by
  obtain ⟨i, hi, h⟩ := mem_flats.1 h
  obtain ⟨_, rfl⟩ := mem_iff1.1 h
  exact ⟨rfl, rfl, by simp only; omega⟩
theorem ap_sorted {R : Flt → Flt → Prop} {a b : List Flt} (h1 : a.Pairwise R) (h2 : b.Pairwise R) (h3 : ∀ x ∈ a, ∀ y ∈ b, R x y) : (a ++ b).Pairwise R := List.pairwise_append.2 ⟨h1, h2, h3⟩
theorem col_sorted {f : Nat → List Flt} {n : Nat} {r : Int} {b : Nat → Bool} (h : ∀ i, f i = iff1 (b i) ⟨r, (i : Int), 0⟩) : (flats f n).Pairwise leF :=
  flats_sorted (fun i _ => by rw [h]; exact iff1_sorted) (fun i j hij _ x hx y hy => by
    rw [h] at hx hy
    obtain ⟨_, rfl⟩ := mem_iff1.1 hx
    obtain ⟨_, rfl⟩ := mem_iff1.1 hy
    exact leF_a rfl (by simp only; omega))
theorem row_sorted {f : Nat → List Flt} {n : Nat} {r a : Int} {b : Nat → Bool} (h : ∀ i, f i = iff1 (b i) ⟨r, a, (i : Int)⟩) : (flats f n).Pairwise leF :=
  flats_sorted (fun i _ => by rw [h]; exact iff1_sorted) (fun i j hij _ x hx y hy => by
    rw [h] at hx hy
    obtain ⟨_, rfl⟩ := mem_iff1.1 hx
    obtain ⟨_, rfl⟩ := mem_iff1.1 hy
    exact leF_b rfl rfl (by simp only; omega))
theorem ite_sorted {R : Flt → Flt → Prop} {p : Prop} [Decidable p] {f : Flt} : (if p then [f] else []).Pairwise R := by split <;> simp
theorem mem_ite {p : Prop} [Decidable p] {f x : Flt} (h : x ∈ (if p then [f] else [])) : x = f := by split at h <;> simp at h; exact h
theorem shapes_last {s : St} {x : Flt} (h : x ∈ (if s.ns ≠ s.ng then [⟨2, 2, 0⟩] else flats (shapeAt s) s.ns)) : x.r = 2 ∧ (2 ≤ x.a ∧ x.a ≤ 3) ∧ (0 ≤ x.b ∧ x.b ≤ s.ns) := by
  split at h
  · simp at h; subst h; exact ⟨rfl, by simp, by simp⟩
  · obtain ⟨i, hi, h⟩ := mem_flats.1 h
    rw [mem_shapeAt h]
    exact ⟨rfl, by simp, by simp only; omega⟩
theorem shapes_sorted (s : St) : (shapesL s).Pairwise leF := by
  unfold shapesL
  refine ap_sorted (ap_sorted ite_sorted ite_sorted fun x hx y hy => ?_) ?_ fun x hx y hy => ?_
  · rw [mem_ite hx, mem_ite hy]; exact leF_a rfl (by simp)
  · split
    · simp
    · refine flats_sorted (fun i _ => by unfold shapeAt; split <;> simp) fun i j hij _ x hx y hy => ?_
      rw [mem_shapeAt hx, mem_shapeAt hy]; exact leF_b rfl rfl (by simp only; omega)
  · obtain ⟨h1, h2, h3⟩ := shapes_last hy
    rcases List.mem_append.1 hx with hx | hx <;> rw [mem_ite hx] <;> exact leF_a h1.symm (by simp only; omega)
theorem parts_sorted (s : St) : (partsL s).Pairwise leF := by
  have hB : ∀ x ∈ flats (brkR s) 7, 4 ≤ x.r ∧ x.r ≤ 10 := fun x hx => by
    obtain ⟨i, hi, hx⟩ := mem_flats.1 hx
    have := mem_br hx; omega
  have hS : ∀ x ∈ flats (sptR s) s.ns, x.r = 11 := fun x hx => by
    obtain ⟨i, hi, hx⟩ := mem_flats.1 hx
    exact (mem_sp hx).1
  unfold partsL
  refine ap_sorted (col_sorted fun i => rfl) (ap_sorted ?_ (ap_sorted ?_ (ap_sorted (col_sorted fun i => rfl) (col_sorted fun i => rfl) fun x hx y hy => ?_) fun x hx y hy => ?_) fun x hx y hy => ?_) fun x hx y hy => ?_
  · refine flats_sorted (fun i _ => col_sorted fun i => rfl) fun i j hij _ x hx y hy => ?_
    have := mem_br hx; have := mem_br hy
    exact leF_r (by omega)
  · refine flats_sorted (fun i _ => ?_) fun i j hij _ x hx y hy => ?_
    · unfold sptR
      split
      · exact List.Pairwise.nil
      · exact row_sorted fun i => rfl
    · have := mem_sp hx; have := mem_sp hy
      exact leF_a (by omega) (by omega)
  · have := mem_rt hx; have := mem_cu hy
    exact leF_r (by omega)
  · have := hS x hx
    rcases List.mem_append.1 hy with hy | hy
    · have := mem_rt hy; exact leF_r (by omega)
    · have := mem_cu hy; exact leF_r (by omega)
  · have := hB x hx
    rcases List.mem_append.1 hy with hy | hy
    · have := hS y hy; exact leF_r (by omega)
    rcases List.mem_append.1 hy with hy | hy
    · have := mem_rt hy; exact leF_r (by omega)
    · have := mem_cu hy; exact leF_r (by omega)
  · have := mem_cl hx
    rcases List.mem_append.1 hy with hy | hy
    · have := hB y hy; exact leF_r (by omega)
    rcases List.mem_append.1 hy with hy | hy
    · have := hS y hy; exact leF_r (by omega)
    rcases List.mem_append.1 hy with hy | hy
    · have := mem_rt hy; exact leF_r (by omega)
    · have := mem_cu hy; exact leF_r (by omega)
theorem floors_sorted (s : St) : (floorsL s).Pairwise leF := by
  refine flats_sorted (fun i _ => row_sorted fun i => rfl) fun i j hij _ x hx y hy => ?_
  have := mem_fl hx; have := mem_fl hy
  exact leF_a (by omega) (by omega)
theorem checkR_sorted (s : St) : (checkR s).Pairwise leF := by
  unfold checkR
  split
  · simp
  · split
    · exact shapes_sorted s
    · split
      · exact parts_sorted s
      · exact floors_sorted s
def okN (x : Flt) : Prop := (0 ≤ x.r ∧ x.r < 256) ∧ (0 ≤ x.a ∧ x.a < 1000000) ∧ (0 ≤ x.b ∧ x.b < 1000000)
theorem shapes_ok (s : St) (hs : s.Small) : ∀ x ∈ shapesL s, okN x := fun x hx => by
  have := hs.ns
  unfold shapesL at hx
  rcases List.mem_append.1 hx with hx | hx
  · rcases List.mem_append.1 hx with hx | hx <;> rw [mem_ite hx] <;> simp [okN]
  · have := shapes_last hx
    unfold okN; omega
theorem parts_ok (s : St) (hs : s.Small) (hc : s.cpus ≤ 64) : ∀ x ∈ partsL s, okN x := fun x hx => by
  obtain ⟨hng, hnk, hnu, hnt, hns, hnsp⟩ := id hs
  unfold okN
  unfold partsL at hx
  rcases List.mem_append.1 hx with hx | hx
  · have := mem_cl hx; omega
  rcases List.mem_append.1 hx with hx | hx
  · obtain ⟨i, hi, hx⟩ := mem_flats.1 hx
    have := mem_br hx; omega
  rcases List.mem_append.1 hx with hx | hx
  · obtain ⟨i, hi, hx⟩ := mem_flats.1 hx
    have := mem_sp hx; have := hnsp i hi; omega
  rcases List.mem_append.1 hx with hx | hx
  · have := mem_rt hx; omega
  · have := mem_cu hx; omega
theorem floors_ok (s : St) (hs : s.Small) (hc : s.cpus ≤ 64) : ∀ x ∈ floorsL s, okN x := fun x hx => by
  have := hs.ns
  obtain ⟨i, hi, hx⟩ := mem_flats.1 hx
  have := mem_fl hx
  unfold okN; omega
theorem checkR_ok (s : St) (hs : s.Small) : ∀ x ∈ checkR s, okN x := by
  intro x hx
  unfold checkR at hx
  by_cases hr : refCfg s = false
  · rw [if_pos hr] at hx; simp at hx; subst hx; simp [okN]
  · rw [if_neg hr] at hx
    have hc := (refCfg_spec (s := s) (by simpa using hr)).1.2.1
    split at hx
    · exact shapes_ok s hs x hx
    · split at hx
      · exact parts_ok s hs hc x hx
      · exact floors_ok s hs hc x hx
theorem floorOk (s : St) (h12 : s.ns ≤ 12) (hr : refCfg s = true) (hsh : (shapesL s).length = 0) (hT : (tasksA s).length = 0) : FloorOk s := by
  obtain ⟨⟨h1, h2, h3, h4, h5, h6, h7⟩, hall⟩ := refCfg_spec hr
  obtain ⟨k1, k2, k3, k4⟩ := shapes_nil hsh
  refine ⟨fun i hi => ?_, fun g hg hn => ?_, k4, by omega, by omega, h2, h12⟩
  · have h := flats_nil hT i hi
    have h6 : t6 s i = false := by
      unfold taskAt at h
      simp only [List.append_eq_nil_iff, iff1_nil] at h
      exact h.2.2.1
    simp only [t6, decide_eq_false_iff_not] at h6
    omega
  · have := hall g hg (by omega)
    simp only [okR, Bool.and_eq_true, decide_eq_true_eq] at this
    exact rdep_par hg this.2
end Go.Proofs.T
end
