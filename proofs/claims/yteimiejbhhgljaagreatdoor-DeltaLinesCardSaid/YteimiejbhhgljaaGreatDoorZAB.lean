import Derived.Test.YteimiejbhhgljaaGreatDoorZAA
import Derived.Laws.MakeOwn
import Derived.Laws.CopyRow
set_option linter.unusedVariables false
set_option linter.unusedSimpArgs false
section
namespace Go.AM
def clean : AVal → Bool
  | .lit _ => true
  | .rd .. => true
  | .rp _ => true
  | .junk => true
  | .fn _ [] => true
  | .nn => true
  | _ => false
def one : AVal → Bool
  | .lit v => v.oneCell'
  | .junk => false
  | .agg _ => false
  | .tup _ => false
  | _ => true
def acells : AVal → Option (List AVal)
  | .agg cs => some cs
  | .lit (.agg cs) => some (cs.toList.map .lit)
  | .junk => none
  | .tup _ => none
  | v => some [v]
def chunks (s n : Nat) (cells : List AVal) : List (List AVal) := (List.range n).map fun i => (cells.drop (i * s)).take s
def newBlk (P : Program) (t : TypeId) (cells : List AVal) : Blk :=
  match arr P t with
  | some (n, s) => if 0 < s ∧ cells.length = n * s then ⟨s, cells.all clean, chunks s n cells⟩ else ⟨cells.length, cells.all clean, [cells]⟩
  | none => ⟨cells.length, cells.all clean, [cells]⟩
def zcells (P : Program) (t : TypeId) : Option (List AVal) := ((P.info? t).bind (·.zero)).map fun z => z.cells.toList.map .lit
theorem clean_V {w : World} {G : Nat → Prop} {ρ : Names} {A : Allow} {v : AVal} {cv : Value} (h : V w G ρ A v cv) (hc : clean v = true) : V w G noNames noAllow v cv := by
  cases h with
  | junk => exact .junk
  | lit => exact .lit
  | rp g h1 h2 h3 => exact .rp g h1 h2 h3
  | nn => exact .nn
  | rd0 => exact .rd0
  | rd g h1 h2 h3 h4 h5 h6 => exact .rd g h1 h2 h3 h4 h5 h6
  | fn h1 h2 => rename_i f caps cs; cases caps with
    | nil => exact .fn h1 (fun j v hj => by simp at hj)
    | cons => simp [clean] at hc
  | _ => simp [clean] at hc
theorem one_V {w : World} {G : Nat → Prop} {ρ : Names} {A : Allow} {v : AVal} {cv : Value} (h : V w G ρ A v cv) (hc : one v = true) : cv.oneCell' = true := by
  cases h <;> simp_all [one, Value.oneCell']
theorem acells_V {w : World} {G : Nat → Prop} {ρ : Names} {A : Allow} {v : AVal} {cv : Value} {cs : List AVal} (h : V w G ρ A v cv) (hc : acells v = some cs) :
    cs.length = cv.cells.size ∧ ∀ (j : Nat) u, cs[j]? = some u → V w G ρ A u (cv.cells.getD j undef) := by
  have single : ∀ (x : Value), (∀ ys, x ≠ .agg ys) → x.cells = #[x] := fun x hx => by cases x <;> simp_all [Value.cells]
  cases h with
  | junk => cases hc
  | tup h1 h2 => cases hc
  | agg h1 h2 => cases hc; exact ⟨h1, h2⟩
  | lit =>
    cases cv with
    | agg ys =>
      cases hc
      refine ⟨by simp [Value.cells], fun j u hj => ?_⟩
      simp only [List.getElem?_map, Option.map_eq_some_iff] at hj
      obtain ⟨x, hx, rfl⟩ := hj
      have : (Value.agg ys).cells.getD j undef = x := by simp only [Value.cells]; rw [Array.getD_eq_getD_getElem?, ← Array.getElem?_toList, hx]; rfl
      rw [this]; exact .lit
    | _ =>
      cases hc
      refine ⟨rfl, fun j u hj => ?_⟩
      cases j with
      | zero => cases hj; exact .lit
      | succ j => simp at hj
  | dang h1 h2 => cases hc; exact ⟨rfl, fun j u hj => by cases j with | zero => cases hj; exact .dang h1 h2 | succ j => simp at hj⟩
  | dangs h1 h2 => cases hc; exact ⟨rfl, fun j u hj => by cases j with | zero => cases hj; exact .dangs h1 h2 | succ j => simp at hj⟩
  | ptr h1 h2 h3 => cases hc; exact ⟨rfl, fun j u hj => by cases j with | zero => cases hj; exact .ptr h1 h2 h3 | succ j => simp at hj⟩
  | dangm h1 h2 => cases hc; exact ⟨rfl, fun j u hj => by cases j with | zero => cases hj; exact .dangm h1 h2 | succ j => simp at hj⟩
  | mp h1 h2 h3 => cases hc; exact ⟨rfl, fun j u hj => by cases j with | zero => cases hj; exact .mp h1 h2 h3 | succ j => simp at hj⟩
  | dangi h1 h2 => cases hc; exact ⟨rfl, fun j u hj => by cases j with | zero => cases hj; exact .dangi h1 h2 | succ j => simp at hj⟩
  | it h1 h2 h3 => cases hc; exact ⟨rfl, fun j u hj => by cases j with | zero => cases hj; exact .it h1 h2 h3 | succ j => simp at hj⟩
  | sl h1 h2 h3 h4 h5 h6 h7 => cases hc; exact ⟨rfl, fun j u hj => by cases j with | zero => cases hj; exact .sl h1 h2 h3 h4 h5 h6 h7 | succ j => simp at hj⟩
  | sl0 h1 h2 => cases hc; exact ⟨rfl, fun j u hj => by cases j with | zero => cases hj; exact .sl0 h1 h2 | succ j => simp at hj⟩
  | rp g h1 h2 h3 => cases hc; exact ⟨rfl, fun j u hj => by cases j with | zero => cases hj; exact .rp g h1 h2 h3 | succ j => simp at hj⟩
  | rd0 => cases hc; exact ⟨rfl, fun j u hj => by cases j with | zero => cases hj; exact .rd0 | succ j => simp at hj⟩
  | rd g h1 h2 h3 h4 h5 h6 => cases hc; exact ⟨rfl, fun j u hj => by cases j with | zero => cases hj; exact .rd g h1 h2 h3 h4 h5 h6 | succ j => simp at hj⟩
  | fn h1 h2 => cases hc; exact ⟨rfl, fun j u hj => by cases j with | zero => cases hj; exact .fn h1 h2 | succ j => simp at hj⟩
  | nn => cases hc; exact ⟨rfl, fun j u hj => by cases j with | zero => cases hj; exact .nn | succ j => simp at hj⟩
  | dangc h1 h2 => cases hc; exact ⟨rfl, fun j u hj => by cases j with | zero => cases hj; exact .dangc h1 h2 | succ j => simp at hj⟩
  | slc h1 h2 h3 h4 h5 h6 h7 => cases hc; exact ⟨rfl, fun j u hj => by cases j with | zero => cases hj; exact .slc h1 h2 h3 h4 h5 h6 h7 | succ j => simp at hj⟩
  | bfn h1 => cases hc; exact ⟨rfl, fun j u hj => by cases j with | zero => cases hj; exact .bfn h1 | succ j => simp at hj⟩
theorem chunks_get {s n : Nat} {cells : List AVal} {r : Nat} {row : List AVal} (h : (chunks s n cells)[r]? = some row) : r < n ∧ row = (cells.drop (r * s)).take s := by
  unfold chunks at h
  rw [List.getElem?_map] at h
  simp only [Option.map_eq_some_iff] at h
  obtain ⟨i, hi, rfl⟩ := h
  obtain ⟨hlt, he⟩ := List.getElem?_eq_some_iff.1 hi
  simp at he hlt
  subst he
  exact ⟨hlt, rfl⟩
theorem chunks_cell {s n : Nat} {cells : List AVal} {r c : Nat} {row : List AVal} {v : AVal} (h : (chunks s n cells)[r]? = some row) (hc : row[c]? = some v) : cells[r * s + c]? = some v := by
  obtain ⟨_, rfl⟩ := chunks_get h
  rw [List.getElem?_take] at hc
  split at hc
  · rw [List.getElem?_drop] at hc; exact hc
  · cases hc
theorem chunks_len {s n : Nat} {cells : List AVal} (hl : cells.length = n * s) {r : Nat} {row : List AVal} (h : (chunks s n cells)[r]? = some row) : row.length = s := by
  obtain ⟨hlt, rfl⟩ := chunks_get h
  have : (r + 1) * s ≤ n * s := Nat.mul_le_mul_right s hlt
  rw [Nat.add_mul] at this
  simp; omega
def RowsAt (cells : List AVal) (B : Blk) : Prop := (∀ (r : Nat) row, B.rows[r]? = some row → row.length = B.sz) ∧ ∀ (r : Nat) row (c : Nat) v, B.rows[r]? = some row → row[c]? = some v → cells[r * B.sz + c]? = some v
theorem newBlk_rows (P : Program) (t : TypeId) (cells : List AVal) : RowsAt cells (newBlk P t cells) ∧ (newBlk P t cells).pure = cells.all clean := by
  have one_row : RowsAt cells ⟨cells.length, cells.all clean, [cells]⟩ := by
    refine ⟨fun r row h => ?_, fun r row c v h hc => ?_⟩
    · cases r with
      | zero => cases h; rfl
      | succ r => simp at h
    · cases r with
      | zero => cases h; simpa using hc
      | succ r => simp at h
  unfold newBlk
  split
  · split
    · rename_i h; exact ⟨⟨fun r row hr => chunks_len h.2 hr, fun r row c v hr hc => chunks_cell hr hc⟩, rfl⟩
    · exact ⟨one_row, rfl⟩
  · exact ⟨one_row, rfl⟩
section
variable {P : Program} {Γ : List (Nat × List AVal)} {o : Oper} {ev : Operand → Option AVal} {get : Nat → Option Blk} {k : Nat}
theorem OpOk_new {B : Blk} {cells : List AVal} {v : AVal} {rds : List Nat} (hB : RowsAt cells B) (hp : B.pure = true → cells.all clean = true)
    (h : ∀ w G ρ H (A : Allow) (a : Act), HRel Γ w G ρ H → (∀ id, id ∈ rds → ∃ B A', get id = some B ∧ H id = some (B, A') ∧ ∀ i, A' i → A i) →
      (∀ x, x ∈ o.op.operands → ∀ v, ev x = some v → V w G ρ A v (a.eval x)) →
      ∃ (C : Array Value) (ty : TypeId) (w1 : World) (cv : Value), (execOp a.eval o).run P w = .ok (.value cv) (w1.alloc (.cells C ty)) ∧ w1.heap = w.heap ∧ w1.os = w.os ∧ w1.tape = w.tape ∧ w1.output = w.output ∧
        (∀ (j : Nat) u, cells[j]? = some u → ∃ cu, C[j]? = some cu ∧ V w G ρ A u cu) ∧
        ((v = .ptr k 0 0 ∧ cv = .pointer (some ⟨w.heap.size, 0, none⟩)) ∨ (∃ n cap, v = .sl k 0 n ∧ cv = .slice (some ⟨w.heap.size, 0, none⟩) n cap ∧ n ≤ cap ∧ cap ≤ maxLen ∧ cap * B.sz ≤ C.size))) :
    OpOk P Γ o ev get k ⟨v, k + 1, [(k, some B)], rds⟩ := by
  intro w G ρ H A a hr hA hf hrd hop next Q hn
  obtain ⟨C, ty, w1, cv, hrun, hw, ho, ht, hou, hC, hv⟩ := h w G ρ H A a hr hrd hop
  have hkA : ¬ A k := fun hk => Nat.lt_irrefl _ (hA k hk)
  obtain ⟨hρ, hfr⟩ := hf k (Nat.le_refl _) (Nat.lt_succ_self _)
  unfold Oper.wp
  rw [hrun]
  have hcon : ∀ r row c v, B.rows[r]? = some row → row[c]? = some v → ∃ cv, C[r * B.sz + c]? = some cv ∧ V w G (if B.pure then noNames else ρ) (if B.pure then noAllow else A) v cv := fun r row c v h1 h2 => by
    have h3 := hB.2 r row c v h1 h2
    obtain ⟨cu, h4, h5⟩ := hC _ v h3
    refine ⟨cu, h4, ?_⟩
    by_cases hpb : B.pure = true
    · simp only [hpb, if_true]; exact clean_V h5 (all_get (hp hpb) h3)
    · simp only [hpb]; exact h5
  have hrel := hr.alloc k hρ hfr B C ty A (fun i => A i ∨ (k ≤ i ∧ i < k + 1)) hkA (fun _ h => .inl h) (.inr ⟨Nat.le_refl _, Nat.lt_succ_self _⟩) hB.1 hcon w1 hw ho ht hou
  have hst := step_alloc (w := w) (G := G) (ρ := ρ) k B.sz (.cells C ty) w1 hw ho ht hou
  refine hn _ G _ cv hrel ?_ ⟨hst.size, hst.keep, hst.shape, hst.g, hst.g', hst.own, fun id hid => hst.ids id (fun he => hid (show k ≤ id ∧ id < k + 1 by omega)), hst.os, hst.tape, hst.output⟩
  rcases hv with ⟨rfl, rfl⟩ | ⟨n, cap, rfl, rfl, h1, h2, h3⟩
  · have := V.ptr (w := w1.alloc (.cells C ty)) (G := G) (ρ := setN ρ k (some (w.heap.size, B.sz))) (A := fun i => A i ∨ (k ≤ i ∧ i < k + 1)) (id := k) (r := 0) (c := 0) (b := w.heap.size) (s := B.sz) (.inr ⟨Nat.le_refl _, Nat.lt_succ_self _⟩) (by simp [setN]) (ty := ty) (m := C.size) (by
      have := heap_push_new w1 (.cells C ty)
      rw [hw] at this
      simp [World.shape?, this])
    simpa using this
  · refine .sl (b := w.heap.size) (s := B.sz) (ty := ty) (m := C.size) (.inr ⟨Nat.le_refl _, Nat.lt_succ_self _⟩) (by simp [setN]) ?_ (by simpa using h3) h1 h2 (.inr (by simp))
    have := heap_push_new w1 (.cells C ty)
    rw [hw] at this
    simp [World.shape?, this]
theorem alloc_ok {t : Nat} {cells : List AVal} (ho : o.op = .alloc t) (hz : zcells P t = some cells) : OpOk P Γ o ev get k ⟨.ptr k 0 0, k + 1, [(k, some (newBlk P t cells))], []⟩ := by
  have hb := newBlk_rows P t cells
  refine OpOk_new hb.1 (fun h => hb.2 ▸ h) fun w G ρ H A a hr _ hop => ?_
  simp only [zcells, Option.map_eq_some_iff, Option.bind_eq_some_iff] at hz
  obtain ⟨z, ⟨i, hi, hz⟩, rfl⟩ := hz
  refine ⟨z.cells, t, w, .pointer (some ⟨w.heap.size, 0, none⟩), ?_, rfl, rfl, rfl, rfl, fun j u hj => ?_, .inl ⟨rfl, rfl⟩⟩
  · simp [execOp, ho, Instr.alloc, zeroValue, typeInfo, hi, hz, newVar, newRow]
  · simp only [List.getElem?_map, Option.map_eq_some_iff] at hj
    obtain ⟨x, hx, rfl⟩ := hj
    exact ⟨x, by rw [← Array.getElem?_toList]; exact hx, .lit⟩
theorem getD_of_lt {cs : Array Value} {j : Nat} (h : j < cs.size) : cs[j]? = some (cs.getD j undef) := by
  rw [Array.getD_eq_getD_getElem?, Array.getElem?_eq_getElem h]; rfl
theorem box_ok {t : Nat} {x : Operand} {v : AVal} {cells : List AVal} (ho : o.op = .box t x) (hx : ev x = some v) (hc : acells v = some cells) : OpOk P Γ o ev get k ⟨.ptr k 0 0, k + 1, [(k, some (newBlk P t cells))], []⟩ := by
  have hb := newBlk_rows P t cells
  refine OpOk_new hb.1 (fun h => hb.2 ▸ h) fun w G ρ H A a hr _ hop => ?_
  obtain ⟨hl, hv⟩ := acells_V (hop x (by simp [ho, Op.operands]) v hx) hc
  refine ⟨(a.eval x).cells, t, w, .pointer (some ⟨w.heap.size, 0, none⟩), ?_, rfl, rfl, rfl, rfl, fun j u hj => ?_, .inl ⟨rfl, rfl⟩⟩
  · simp [execOp, ho, Instr.box, newVar, newRow]
  · have hlt := (List.getElem?_eq_some_iff.1 hj).1
    exact ⟨_, getD_of_lt (by omega), hv j u hj⟩
def ezero (P : Program) (t : TypeId) : Option (Nat × Nat × List AVal) :=
  match P.underlying t with
  | some (.slice e) => match P.info? e with
    | some i => match i.zero with
      | some z => if z.cells.size = i.size ∧ 0 < i.size then some (i.size, i.bytes, z.cells.toList.map .lit) else none
      | none => none
    | none => none
  | _ => none
theorem madeCells_get {z : Array Value} {n s : Nat} (hs : z.size = s) (h0 : 0 < s) {r c : Nat} (hr : r < n) (hc : c < s) : (madeCells z (n * s))[r * s + c]? = z[c]? := by
  unfold madeCells
  have hlt : r * s + c < n * s := by
    have : (r + 1) * s ≤ n * s := Nat.mul_le_mul_right s hr
    rw [Nat.add_mul] at this; omega
  have hm : (r * s + c) % s = c := by rw [Nat.add_comm, Nat.add_mul_mod_self_right]; exact Nat.mod_eq_of_lt hc
  rw [Array.getElem?_map, Array.getElem?_range, if_pos hlt]
  simp only [Option.map_some, hs, hm]
  rw [Array.getElem!_eq_getD, Array.getD_eq_getD_getElem?, Array.getElem?_eq_getElem (by omega)]
  rfl
theorem make_ok {t s by' : Nat} {x y : Operand} {zrow : List AVal} {kl kc : IntKind} {l c : Int} (ho : o.op = .makeSlice t x y) (hz : ezero P t = some (s, by', zrow)) (hx : ev x = some (.lit (.int kl l))) (hy : ev y = some (.lit (.int kc c)))
    (h0 : 0 ≤ l) (h1 : l ≤ c) (h2 : (by' : Int) * c ≤ 281474976710656) (h3 : c ≤ 9223372036854775807) :
    OpOk P Γ o ev get k ⟨.sl k 0 l.toNat, k + 1, [(k, some ⟨s, true, List.replicate l.toNat zrow⟩)], []⟩ := by
  unfold ezero at hz
  split at hz
  · rename_i e hu
    split at hz
    · rename_i i hi
      split at hz
      · rename_i z hzz
        split at hz
        · rename_i hsz
          cases hz
          have hlen : ∀ (r : Nat) row, (List.replicate l.toNat (z.cells.toList.map AVal.lit))[r]? = some row → r < l.toNat ∧ row = z.cells.toList.map AVal.lit := fun r row h => by
            rw [List.getElem?_replicate] at h
            split at h
            · cases h; exact ⟨‹_›, rfl⟩
            · cases h
          refine OpOk_new (cells := (madeCells z.cells (c.toNat * i.size)).toList.map .lit) ⟨fun r row h => by rw [(hlen r row h).2]; simp [hsz.1], fun r row j v h hj => ?_⟩ (fun _ => by simp [clean]) fun w G ρ H A a hr _ hop => ?_
          · obtain ⟨hr1, rfl⟩ := hlen r row h
            rw [List.getElem?_map] at hj ⊢
            simp only [Option.map_eq_some_iff] at hj ⊢
            obtain ⟨u, hu1, rfl⟩ := hj
            refine ⟨u, ?_, rfl⟩
            have hjlt : j < i.size := by have := (List.getElem?_eq_some_iff.1 hu1).1; simp at this; omega
            rw [Array.getElem?_toList, madeCells_get hsz.1 hsz.2 (by omega) hjlt, ← Array.getElem?_toList]
            exact hu1
          · have hvx := V_bool (hop x (by simp [ho, Op.operands]) _ hx)
            have hvy := V_bool (hop y (by simp [ho, Op.operands]) _ hy)
            have hrun := run_make (P := P) w t e i z hu hi hzz kl kc l c h0 h1 h2 h3
            refine ⟨madeCells z.cells (c.toNat * i.size), e, w, .slice (some ⟨w.heap.size, 0, none⟩) l.toNat c.toNat, by simp [execOp, ho, hvx, hvy, hrun], rfl, rfl, rfl, rfl, fun j u hj => ?_, .inr ⟨l.toNat, c.toNat, rfl, rfl, by omega, by unfold maxLen; omega, by rw [size_madeCells]; exact Nat.le_refl _⟩⟩
            rw [List.getElem?_map] at hj
            simp only [Option.map_eq_some_iff] at hj
            obtain ⟨u', hu1, rfl⟩ := hj
            exact ⟨u', by rw [← Array.getElem?_toList]; exact hu1, .lit⟩
        · cases hz
      · cases hz
    · cases hz
  · cases hz
theorem seg_get {α : Type} {l vs : List α} {o : Nat} (h : o + vs.length ≤ l.length) (i : Nat) :
    (l.take o ++ vs ++ l.drop (o + vs.length))[i]? = if i < o then l[i]? else if i < o + vs.length then vs[i - o]? else l[i]? := by
  have ho : (l.take o).length = o := by simp; omega
  by_cases h1 : i < o
  · rw [if_pos h1, List.append_assoc, List.getElem?_append_left (by omega), List.getElem?_take, if_pos h1]
  · rw [if_neg h1]
    by_cases h2 : i < o + vs.length
    · rw [if_pos h2, List.append_assoc, List.getElem?_append_right (by omega), ho, List.getElem?_append_left (by omega)]
    · rw [if_neg h2, List.getElem?_append_right (by simp; omega), List.getElem?_drop]
      congr 1
      simp; omega
theorem row_apart {sz r r' c c' n : Nat} (h1 : c' < sz) (h2 : c + n ≤ sz) (hne : r' ≠ r) : r' * sz + c' < r * sz + c ∨ r * sz + c + n ≤ r' * sz + c' := by
  rcases Nat.lt_or_gt_of_ne hne with h | h
  · left
    have : (r' + 1) * sz ≤ r * sz := Nat.mul_le_mul_right sz h
    rw [Nat.add_mul] at this; omega
  · right
    have : (r + 1) * sz ≤ r' * sz := Nat.mul_le_mul_right sz h
    rw [Nat.add_mul] at this; omega
theorem run_storeVar_cells {t b off n : Nat} {w : World} {C : Array Value} {ty : TypeId} (hC : w.heap[b]? = some (.cells C ty (0, 0))) (hn : tsz P t = some n) (v : Value) (hv : v.cells.size = n) (h1 : ∀ u ∈ v.cells.toList, u.oneCell' = true) (hfit : off + n ≤ C.size) :
    (Instr.storeAt t (.pointer (some ⟨b, off, none⟩)) v).run P w = .ok () (w.setRow b (C.toList.take off ++ v.cells.toList ++ C.toList.drop (off + v.cells.toList.length)).toArray) := by
  simp only [tsz, Option.map_eq_some_iff] at hn
  obtain ⟨i, hi, rfl⟩ := hn
  have := run_storeCells_at (P := P) b off ty v.cells.toList 0 C w hC (by simp; omega) h1
  simp only [Nat.add_zero] at this
  simp only [Instr.storeAt, Instr.sureAddr, storeVar, sizeOf, typeInfo, Sem.run_bind, Sem.run_pure, Result.andThen_ok, run_program, hi, hv]
  simp [this]
def setPart (row vs : List AVal) (c : Nat) : List AVal := row.take c ++ vs ++ row.drop (c + vs.length)
theorem store_ok {t n id r c : Nat} {x y : Operand} {B : Blk} {row cells : List AVal} {v : AVal} (ho : o.op = .store t x y) (hn : tsz P t = some n) (hx : ev x = some (.ptr id r c)) (hy : ev y = some v) (hc : acells v = some cells)
    (hl : cells.length = n) (h1 : cells.all one = true) (hB : get id = some B) (hrow : B.rows[r]? = some row) (hfit : c + n ≤ row.length) :
    OpOk P Γ o ev get k ⟨.junk, k, [(id, some ⟨B.sz, B.pure && cells.all clean, B.rows.set r (setPart row cells c)⟩)], [id]⟩ := by
  intro w G ρ H A a hr hA hf hrd hop next Q hn'
  have hvx := hop x (by simp [ho, Op.operands]) _ hx
  have hvy := hop y (by simp [ho, Op.operands]) _ hy
  obtain ⟨B', A', h2, hH, hAA⟩ := hrd id (by simp)
  rw [hB] at h2; cases h2
  obtain ⟨hAid, b, hb, hg, hBR⟩ := hr.blk id B A' hH
  have hlen := hBR.len
  obtain ⟨hcl, hcv⟩ := acells_V hvy hc
  have hrl := hlen r row hrow
  generalize hev : a.eval x = cv at hvx
  cases hvx with
  | dang _ hn => rw [hb] at hn; cases hn
  | ptr ha hρ hsh =>
    rw [hb] at hρ; cases hρ
    obtain ⟨⟨C, ty, hC, hrows⟩, _⟩ := hBR.old hsh
    have hone : ∀ u ∈ (a.eval y).cells.toList, u.oneCell' = true := fun u hu => by
      obtain ⟨j, hj⟩ := List.getElem?_of_mem hu
      have hjl := (List.getElem?_eq_some_iff.1 hj).1
      have hjl' : j < cells.length := by simp at hjl; omega
      have h3 := hcv j _ (List.getElem?_eq_getElem hjl')
      have e : (a.eval y).cells.getD j undef = u := by rw [Array.getD_eq_getD_getElem?, ← Array.getElem?_toList, hj]; rfl
      rw [e] at h3
      exact one_V h3 (all_get h1 (List.getElem?_eq_getElem hjl'))
    have hsz : r * B.sz + row.length ≤ C.size := by
      by_cases h0 : row.length = 0
      · have : 0 < row.length ∨ row.length = 0 := by omega
        cases hrw : row with
        | nil =>
          have : n = 0 := by rw [hrw] at hfit; simp at hfit; omega
          rw [hrw] at hrl
          simp at hrl
          rw [← hrl]; simp
        | cons => rw [hrw] at h0; simp at h0
      · have hlast : row[row.length - 1]? = some row[row.length - 1] := List.getElem?_eq_getElem (by omega)
        obtain ⟨cu, h4, _⟩ := hrows r row _ _ hrow hlast
        have := (Array.getElem?_eq_some_iff.1 h4).1
        omega
    have hrun := run_storeVar_cells (P := P) (off := r * B.sz + c) hC hn (a.eval y) (by omega) hone (by omega)
    unfold Oper.wp
    have hrun' : (execOp a.eval o).run P w = .ok .skip (w.setRow b (C.toList.take (r * B.sz + c) ++ (a.eval y).cells.toList ++ C.toList.drop (r * B.sz + c + (a.eval y).cells.toList.length)).toArray) := by
      simp only [execOp, ho, hev]; simp [hrun]
    rw [hrun']
    have hvl : (a.eval y).cells.toList.length = n := by simp; omega
    have hseg := seg_get (l := C.toList) (vs := (a.eval y).cells.toList) (o := r * B.sz + c) (by simp; omega)
    have hrw := HRel.rewrite hr hb id (.inl rfl) ⟨B.sz, B.pure && cells.all clean, B.rows.set r (setPart row cells c)⟩ rfl
      (C.toList.take (r * B.sz + c) ++ (a.eval y).cells.toList ++ C.toList.drop (r * B.sz + c + (a.eval y).cells.toList.length)).toArray ty A (fun i => A i ∨ (k ≤ i ∧ i < k)) (.inl rfl) (fun _ h => .inl h) (.inl (hAA _ hAid))
      (w.setRow b (C.toList.take (r * B.sz + c) ++ (a.eval y).cells.toList ++ C.toList.drop (r * B.sz + c + (a.eval y).cells.toList.length)).toArray)
      (setRow_heap w b C _ ty _ hC) (fun j hj => setRow_other w b j _ hj) (size_setRow _ _ _)
      (by
        unfold World.shape?
        rw [setRow_heap w b C _ ty _ hC, hC]
        simp; omega)
      rfl rfl rfl ?_ ?_
    · obtain ⟨hrel, hst⟩ := hrw
      have hnm : setN (setN ρ id none) id (some (b, B.sz)) = ρ := funext fun i => by
        simp only [setN]; split
        · rename_i he; rw [he, hb]
        · rfl
      rw [hnm] at hrel hst
      have hup : updO H (fun i => A i ∨ (k ≤ i ∧ i < k)) [(id, some ⟨B.sz, B.pure && cells.all clean, B.rows.set r (setPart row cells c)⟩), (id, none)]
          = updO H (fun i => A i ∨ (k ≤ i ∧ i < k)) [(id, some ⟨B.sz, B.pure && cells.all clean, B.rows.set r (setPart row cells c)⟩)] := funext fun i => by
        simp only [updO]; split <;> rfl
      rw [hup] at hrel
      exact hn' _ G ρ undef hrel .junk ⟨hst.size, hst.keep, hst.shape, hst.g, hst.g', hst.own, fun i hi => hst.ids i (.inr rfl), hst.os, hst.tape, hst.output⟩
    · intro r' row' h
      simp only [List.getElem?_set] at h
      split at h
      · split at h
        · cases h
          show (setPart row cells c).length = B.sz
          unfold setPart; simp; omega
        · cases h
      · exact hlen r' row' h
    · intro r' row' c' v' h hv'
      change (B.rows.set r (setPart row cells c))[r']? = some row' at h
      show ∃ cv, (C.toList.take (r * B.sz + c) ++ (a.eval y).cells.toList ++ C.toList.drop (r * B.sz + c + (a.eval y).cells.toList.length)).toArray[r' * B.sz + c']? = some cv ∧
        V w G (if (B.pure && cells.all clean) then noNames else ρ) (if (B.pure && cells.all clean) then noAllow else A) v' cv
      have hc'lt := (List.getElem?_eq_some_iff.1 hv').1
      have tovb : ∀ u cu, V w G (if B.pure then noNames else ρ) (if B.pure then noAllow else A') u cu → V w G (if (B.pure && cells.all clean) then noNames else ρ) (if (B.pure && cells.all clean) then noAllow else A) u cu := fun u cu hu => by
        by_cases hp : B.pure = true
        · simp only [hp, if_true] at hu
          by_cases hq : cells.all clean = true
          · simp only [hp, hq, Bool.and_self, if_true]; exact hu
          · simp only [hq, Bool.and_false, Bool.false_eq_true, if_false]; exact hu.weaken
        · have hp' : B.pure = false := by simpa using hp
          simp only [hp', Bool.false_and, Bool.false_eq_true, if_false] at hu ⊢
          exact hu.mono (fun _ h => h) (fun _ _ => rfl) (fun _ _ => rfl) hAA (fun _ _ => .inr rfl)
      simp only [List.getElem?_set] at h
      rw [List.getElem?_toArray, hseg]
      split at h
      · rename_i hre
        subst hre
        split at h
        · cases h
          unfold setPart at hv'
          have hs2 := seg_get (l := row) (vs := cells) (o := c) (by omega) c'
          rw [hs2] at hv'
          by_cases h3 : c' < c
          · rw [if_pos h3] at hv'
            rw [if_pos (by omega)]
            obtain ⟨cu, h4, h5⟩ := hrows r row c' v' hrow hv'
            exact ⟨cu, by rw [Array.getElem?_toList]; exact h4, tovb _ _ h5⟩
          · rw [if_neg h3] at hv'
            by_cases h4 : c' < c + cells.length
            · rw [if_pos h4] at hv'
              rw [if_neg (by omega), if_pos (by omega)]
              have e : r * B.sz + c' - (r * B.sz + c) = c' - c := by omega
              rw [e]
              refine ⟨(a.eval y).cells.getD (c' - c) undef, ?_, ?_⟩
              · rw [Array.getElem?_toList]; exact getD_of_lt (by omega)
              · have h6 := hcv _ _ hv'
                by_cases hq : (B.pure && cells.all clean) = true
                · simp only [hq, if_true]
                  simp only [Bool.and_eq_true] at hq
                  exact clean_V h6 (all_get hq.2 hv')
                · simp only [hq]; exact h6
            · rw [if_neg h4] at hv'
              rw [if_neg (by omega), if_neg (by omega)]
              obtain ⟨cu, h5, h6⟩ := hrows r row c' v' hrow hv'
              exact ⟨cu, by rw [Array.getElem?_toList]; exact h5, tovb _ _ h6⟩
        · cases h
      · rename_i hre
        obtain ⟨cu, h5, h6⟩ := hrows r' row' c' v' h hv'
        have hl' := hlen r' row' h
        have hap := row_apart (sz := B.sz) (r := r) (r' := r') (c := c) (c' := c') (n := n) (by omega) (by omega) (fun e => hre e.symm)
        refine ⟨cu, ?_, tovb _ _ h6⟩
        rcases hap with h7 | h7
        · rw [if_pos h7, Array.getElem?_toList]; exact h5
        · rw [if_neg (by omega), if_neg (by omega), Array.getElem?_toList]; exact h5
theorem flat_get {s : Nat} : ∀ {rows : List (List AVal)}, (∀ (r : Nat) row, rows[r]? = some row → row.length = s) → ∀ (j : Nat) u, rows.flatten[j]? = some u → ∃ r row c, rows[r]? = some row ∧ row[c]? = some u ∧ j = r * s + c
  | [], _, j, u, h => by simp at h
  | x :: rest, hl, j, u, h => by
    rw [List.flatten_cons, List.getElem?_append] at h
    split at h
    · exact ⟨0, x, j, rfl, h, by omega⟩
    · rename_i hj
      have hx : x.length = s := hl 0 x rfl
      obtain ⟨r, row, c, h1, h2, h3⟩ := flat_get (rows := rest) (fun r row hr => hl (r + 1) row (by simpa using hr)) (j - x.length) u h
      refine ⟨r + 1, row, c, by simpa using h1, h2, ?_⟩
      rw [Nat.add_mul]; omega
theorem load_all_ok {t n id : Nat} {x : Operand} {B : Blk} {ag : Bool} {v : AVal} (ho : o.op = .load t x) (ht : tagg P t = some ag) (hn : tsz P t = some n) (hx : ev x = some (.ptr id 0 0))
    (hB : get id = some B) (hp : rowPart ag n B.rows.flatten 0 = some v) : OpOk P Γ o ev get k ⟨v, k, [], [id]⟩ := by
  refine OpOk_quiet fun w G ρ H A a hr hrd hop => ?_
  have hvx := hop x (by simp [ho, Op.operands]) _ hx
  obtain ⟨B', A', h2, hH, hAA⟩ := hrd id (by simp)
  rw [hB] at h2; cases h2
  obtain ⟨_, b, hb, _, hBR⟩ := hr.blk id B A' hH
  generalize hev : a.eval x = cv at hvx
  cases hvx with
  | dang _ hn => rw [hb] at hn; cases hn
  | ptr ha hρ hsh =>
    rw [hb] at hρ; cases hρ
    obtain ⟨⟨C, ty, hC, hrows⟩, hlen⟩ := hBR.old hsh
    have hcell : ∀ (j : Nat) u, B.rows.flatten[j]? = some u → w.cell? ⟨b, 0 * B.sz + j, none⟩ = some (C.getD (0 * B.sz + j) undef) := fun j u hj => by
      obtain ⟨r, row, c, h3, h4, rfl⟩ := flat_get hlen j u hj
      obtain ⟨cv, h5, _⟩ := hrows r row c u h3 h4
      rw [Nat.zero_mul, Nat.zero_add, cell_of_row w b _ C ty (0, 0) hC, h5, Array.getD_eq_getD_getElem?, h5]; rfl
    have hval : ∀ (j : Nat) u, B.rows.flatten[j]? = some u → V w G ρ A u (C.getD (0 * B.sz + j) undef) := fun j u hj => by
      obtain ⟨r, row, c, h3, h4, rfl⟩ := flat_get hlen j u hj
      obtain ⟨cv, h5, h6⟩ := hrows r row c u h3 h4
      rw [Nat.zero_mul, Nat.zero_add, Array.getD_eq_getD_getElem?, h5]
      by_cases hp : B.pure = true
      · simp only [hp, if_true] at h6; exact h6.weaken
      · simp only [hp] at h6
        exact h6.mono (fun _ h => h) (fun _ _ => rfl) (fun _ _ => rfl) hAA (fun _ _ => .inr rfl)
    obtain ⟨cv, hrun, hV⟩ := load_part (P := P) ht hn hp (fun j => C.getD (0 * B.sz + j) undef) hcell hval
    rw [Nat.zero_mul, Nat.zero_add] at hrun hev
    exact ⟨cv, by simp only [execOp, ho, hev]; simp [hrun], hV⟩
theorem store_all_ok {t n id : Nat} {x y : Operand} {B : Blk} {cells : List AVal} {v : AVal} (ho : o.op = .store t x y) (hn : tsz P t = some n) (hx : ev x = some (.ptr id 0 0)) (hy : ev y = some v) (hc : acells v = some cells)
    (hl : cells.length = n) (h1 : cells.all one = true) (hB : get id = some B) (hsz0 : 0 < B.sz) (hfit : n = B.rows.length * B.sz) :
    OpOk P Γ o ev get k ⟨.junk, k, [(id, some ⟨B.sz, cells.all clean, chunks B.sz B.rows.length cells⟩)], [id]⟩ := by
  intro w G ρ H A a hr hA hf hrd hop next Q hn'
  have hvx := hop x (by simp [ho, Op.operands]) _ hx
  have hvy := hop y (by simp [ho, Op.operands]) _ hy
  obtain ⟨B', A', h2, hH, hAA⟩ := hrd id (by simp)
  rw [hB] at h2; cases h2
  obtain ⟨hAid, b, hb, hg, hBR⟩ := hr.blk id B A' hH
  have hlen := hBR.len
  obtain ⟨hcl, hcv⟩ := acells_V hvy hc
  generalize hev : a.eval x = cv at hvx
  cases hvx with
  | dang _ hn => rw [hb] at hn; cases hn
  | ptr ha hρ hsh =>
    rw [hb] at hρ; cases hρ
    obtain ⟨⟨C, ty, hC, hrows⟩, _⟩ := hBR.old hsh
    have hone : ∀ u ∈ (a.eval y).cells.toList, u.oneCell' = true := fun u hu => by
      obtain ⟨j, hj⟩ := List.getElem?_of_mem hu
      have hjl := (List.getElem?_eq_some_iff.1 hj).1
      have hjl' : j < cells.length := by simp at hjl; omega
      have h3 := hcv j _ (List.getElem?_eq_getElem hjl')
      have e : (a.eval y).cells.getD j undef = u := by rw [Array.getD_eq_getD_getElem?, ← Array.getElem?_toList, hj]; rfl
      rw [e] at h3
      exact one_V h3 (all_get h1 (List.getElem?_eq_getElem hjl'))
    have hsz : n ≤ C.size := by
      cases hR : B.rows.length with
      | zero => rw [hR] at hfit; simp at hfit; omega
      | succ q =>
        have hrow : B.rows[q]? = some (B.rows[q]'(by omega)) := List.getElem?_eq_getElem (by omega)
        have hrl := hlen q _ hrow
        have hlast : (B.rows[q]'(by omega))[B.sz - 1]? = some ((B.rows[q]'(by omega))[B.sz - 1]'(by omega)) := List.getElem?_eq_getElem (by omega)
        obtain ⟨cu, h4, _⟩ := hrows q _ _ _ hrow hlast
        have := (Array.getElem?_eq_some_iff.1 h4).1
        rw [hfit, hR, Nat.add_mul]; omega
    have hrun := run_storeVar_cells (P := P) (off := 0 * B.sz + 0) hC hn (a.eval y) (by omega) hone (by omega)
    simp only [Nat.zero_mul, Nat.zero_add] at hrun
    unfold Oper.wp
    have hrun' : (execOp a.eval o).run P w = .ok .skip (w.setRow b (C.toList.take 0 ++ (a.eval y).cells.toList ++ C.toList.drop (0 + (a.eval y).cells.toList.length)).toArray) := by
      simp only [execOp, ho, hev, Nat.zero_mul, Nat.zero_add, Nat.add_zero]; simp at hrun; simp [hrun]
    rw [hrun']
    have hvl : (a.eval y).cells.toList.length = n := by simp; omega
    have hseg := seg_get (l := C.toList) (vs := (a.eval y).cells.toList) (o := 0) (by simp; omega)
    have hrw := HRel.rewrite hr hb id (.inl rfl) ⟨B.sz, cells.all clean, chunks B.sz B.rows.length cells⟩ rfl
      (C.toList.take 0 ++ (a.eval y).cells.toList ++ C.toList.drop (0 + (a.eval y).cells.toList.length)).toArray ty A (fun i => A i ∨ (k ≤ i ∧ i < k)) (.inl rfl) (fun _ h => .inl h) (.inl (hAA _ hAid))
      (w.setRow b (C.toList.take 0 ++ (a.eval y).cells.toList ++ C.toList.drop (0 + (a.eval y).cells.toList.length)).toArray)
      (setRow_heap w b C _ ty _ hC) (fun j hj => setRow_other w b j _ hj) (size_setRow _ _ _)
      (by
        unfold World.shape?
        rw [setRow_heap w b C _ ty _ hC, hC]
        simp; omega)
      rfl rfl rfl ?_ ?_
    · obtain ⟨hrel, hst⟩ := hrw
      have hnm : setN (setN ρ id none) id (some (b, B.sz)) = ρ := funext fun i => by
        simp only [setN]; split
        · rename_i he; rw [he, hb]
        · rfl
      rw [hnm] at hrel hst
      have hup : updO H (fun i => A i ∨ (k ≤ i ∧ i < k)) [(id, some ⟨B.sz, cells.all clean, chunks B.sz B.rows.length cells⟩), (id, none)]
          = updO H (fun i => A i ∨ (k ≤ i ∧ i < k)) [(id, some ⟨B.sz, cells.all clean, chunks B.sz B.rows.length cells⟩)] := funext fun i => by
        simp only [updO]; split <;> rfl
      rw [hup] at hrel
      exact hn' _ G ρ undef hrel .junk ⟨hst.size, hst.keep, hst.shape, hst.g, hst.g', hst.own, fun i hi => hst.ids i (.inr rfl), hst.os, hst.tape, hst.output⟩
    · intro r' row' h
      exact chunks_len (by rw [hl]; exact hfit) h
    · intro r' row' c' v' h hv'
      change (chunks B.sz B.rows.length cells)[r']? = some row' at h
      show ∃ cv, (C.toList.take 0 ++ (a.eval y).cells.toList ++ C.toList.drop (0 + (a.eval y).cells.toList.length)).toArray[r' * B.sz + c']? = some cv ∧
        V w G (if (cells.all clean) then noNames else ρ) (if (cells.all clean) then noAllow else A) v' cv
      have h6 := chunks_cell h hv'
      have hlt := (List.getElem?_eq_some_iff.1 h6).1
      rw [List.getElem?_toArray, hseg, if_neg (by omega), if_pos (by omega), Nat.sub_zero]
      refine ⟨(a.eval y).cells.getD (r' * B.sz + c') undef, ?_, ?_⟩
      · rw [Array.getElem?_toList]; exact getD_of_lt (by omega)
      · have h7 := hcv _ _ h6
        by_cases hq : cells.all clean = true
        · simp only [hq, if_true]; exact clean_V h7 (all_get hq h6)
        · simp only [hq]; exact h7
end
end Go.AM
end
section
namespace Go.AM
def VL (w : World) (G : Nat → Prop) (ρ : Names) (A : Allow) (cells : List AVal) (cs : Array Value) : Prop :=
  cells.length = cs.size ∧ ∀ (j : Nat) v, cells[j]? = some v → V w G ρ A v (cs.getD j undef)
def fillA (place : Nat → Option (Nat × Nat)) (cells : List AVal) : List (Nat × AVal) → Option (List AVal)
  | [] => some cells
  | (i, v) :: rest => match place i, acells v with
    | some (off, size), some vs => if vs.length = size ∧ off + size ≤ cells.length then fillA place (setPart cells vs off) rest else none
    | _, _ => none
theorem fold_set (off : Nat) : ∀ (l : List Value) (start : Nat) (cs : Array Value),
    ((l.zipIdx start).foldl (fun (cs : Array Value) (x : Value × Nat) => cs.setIfInBounds (off + x.2) x.1) cs).size = cs.size ∧
    ∀ i, ((l.zipIdx start).foldl (fun (cs : Array Value) (x : Value × Nat) => cs.setIfInBounds (off + x.2) x.1) cs)[i]? =
      if off + start ≤ i ∧ i < off + start + l.length ∧ i < cs.size then l[i - off - start]? else cs[i]?
  | [], start, cs => by
    refine ⟨rfl, fun i => ?_⟩
    rw [if_neg (by simp; omega)]; rfl
  | x :: r, start, cs => by
    obtain ⟨h1, h2⟩ := fold_set off r (start + 1) (cs.setIfInBounds (off + start) x)
    simp only [List.zipIdx_cons, List.foldl_cons]
    refine ⟨by rw [h1]; simp, fun i => ?_⟩
    rw [h2]
    by_cases hi : i = off + start
    · subst hi
      rw [if_neg (by omega)]
      by_cases hs : off + start < cs.size
      · rw [if_pos ⟨by omega, by simp, hs⟩, Array.getElem?_setIfInBounds_self_of_lt hs]
        have : off + start - off - start = 0 := by omega
        rw [this]; rfl
      · rw [if_neg (by omega), Array.getElem?_eq_none (by simp; omega), Array.getElem?_eq_none (by omega)]
    · rw [Array.getElem?_setIfInBounds_ne (fun e => hi e.symm)]
      by_cases hc : off + start ≤ i ∧ i < off + start + (x :: r).length ∧ i < cs.size
      · rw [if_pos hc, if_pos ⟨by omega, by simp at hc; omega, by simp; omega⟩]
        have e : i - off - start = (i - off - (start + 1)) + 1 := by omega
        rw [e, List.getElem?_cons_succ]
      · rw [if_neg hc, if_neg (by simp at hc ⊢; omega)]
theorem fill_V {w : World} {G : Nat → Prop} {ρ : Names} {A : Allow} (place : Nat → Option (Nat × Nat)) : ∀ (parts : List (Nat × AVal)) (cparts : List (Nat × Value)) (cells cells' : List AVal) (cs : Array Value), VL w G ρ A cells cs →
    parts.length = cparts.length → (∀ (j : Nat) p cp, parts[j]? = some p → cparts[j]? = some cp → p.1 = cp.1 ∧ V w G ρ A p.2 cp.2) → fillA place cells parts = some cells' →
    ∃ cs', Instr.fill place cs cparts = some cs' ∧ VL w G ρ A cells' cs'
  | [], cparts, cells, cells', cs, hv, hl, hp, hf => by
    cases cparts with
    | nil => cases hf; exact ⟨cs, rfl, hv⟩
    | cons => simp at hl
  | (i, v) :: rest, cparts, cells, cells', cs, hv, hl, hp, hf => by
    cases cparts with
    | nil => simp at hl
    | cons cp crest =>
      obtain ⟨i', cv⟩ := cp
      obtain ⟨he, hV⟩ := hp 0 _ _ rfl rfl
      simp only at he hV
      subst he
      simp only [fillA] at hf
      split at hf
      · rename_i off size vs h1 h2
        split at hf
        · rename_i hc
          obtain ⟨h3, h4⟩ := acells_V hV h2
          have hfold := fold_set off cv.cells.toList 0 cs
          simp only [Nat.add_zero, Nat.sub_zero] at hfold
          have hvl : VL w G ρ A (setPart cells vs off) (cv.cells.zipIdx.foldl (fun (cs : Array Value) (x : Value × Nat) => cs.setIfInBounds (off + x.2) x.1) cs) := by
            rw [← Array.foldl_toList, Array.toList_zipIdx]
            refine ⟨by rw [hfold.1, ← hv.1]; unfold setPart; simp; omega, fun j u hj => ?_⟩
            unfold setPart at hj
            rw [seg_get (by omega)] at hj
            rw [Array.getD_eq_getD_getElem?, hfold.2]
            by_cases h5 : j < off
            · rw [if_pos h5] at hj
              rw [if_neg (by omega), ← Array.getD_eq_getD_getElem?]
              exact hv.2 j u hj
            · rw [if_neg h5] at hj
              by_cases h6 : j < off + vs.length
              · rw [if_pos h6] at hj
                rw [if_pos ⟨by omega, by simp; omega, by rw [← hv.1]; omega⟩, Array.getElem?_toList, ← Array.getD_eq_getD_getElem?]
                exact h4 _ u hj
              · rw [if_neg h6] at hj
                rw [if_neg (by simp; omega), ← Array.getD_eq_getD_getElem?]
                exact hv.2 j u hj
          obtain ⟨cs', h5, h6⟩ := fill_V place rest crest _ cells' _ hvl (by simpa using hl) (fun j p cp hj hcj => hp (j + 1) p cp (by simpa using hj) (by simpa using hcj)) hf
          refine ⟨cs', ?_, h6⟩
          simp only [Instr.fill, h1]
          rw [if_neg (by simp; rw [← hv.1]; omega)]
          exact h5
        · cases hf
      · cases hf
def evParts (ev : Operand → Option AVal) : List (Nat × Operand) → Option (List (Nat × AVal))
  | [] => some []
  | (i, x) :: r => match ev x, evParts ev r with
    | some v, some vs => some ((i, v) :: vs)
    | _, _ => none
theorem evParts_spec {ev : Operand → Option AVal} : ∀ {ps : List (Nat × Operand)} {vs : List (Nat × AVal)}, evParts ev ps = some vs → vs.length = ps.length ∧ ∀ (j : Nat) v p, vs[j]? = some v → ps[j]? = some p → v.1 = p.1 ∧ ev p.2 = some v.2
  | [], vs, h => by cases h; exact ⟨rfl, fun j v p hv => by simp at hv⟩
  | (i, x) :: r, vs, h => by
    simp only [evParts] at h
    split at h
    · rename_i v vs' h1 h2
      cases h
      obtain ⟨h3, h4⟩ := evParts_spec h2
      refine ⟨by simp [h3], fun j u p hu hp => ?_⟩
      cases j with
      | zero => cases hu; cases hp; exact ⟨rfl, h1⟩
      | succ j => exact h4 j u p (by simpa using hu) (by simpa using hp)
    · cases h
def placesOf (P : Program) (t : TypeId) : Option (Array (Nat × Nat)) :=
  match P.underlying t with
  | some (.struct fields) => pureRun P (fields.mapM fun f => do pure (f.offset, ← sizeOf f.type))
  | some (.array n e) => (tsz P e).map fun s => (Array.range n).map fun i => (i * s, s)
  | _ => none
section
variable {P : Program} {Γ : List (Nat × List AVal)} {o : Oper} {ev : Operand → Option AVal} {get : Nat → Option Blk} {k : Nat}
theorem zcells_spec {t : Nat} {cells : List AVal} (h : zcells P t = some cells) : ∃ i z, P.info? t = some i ∧ i.zero = some z ∧ cells = z.cells.toList.map .lit := by
  simp only [zcells, Option.map_eq_some_iff, Option.bind_eq_some_iff] at h
  obtain ⟨z, ⟨i, hi, hz⟩, rfl⟩ := h
  exact ⟨i, z, hi, hz, rfl⟩
theorem VL_lits {w : World} {G : Nat → Prop} {ρ : Names} {A : Allow} (cs : Array Value) : VL w G ρ A (cs.toList.map .lit) cs := by
  refine ⟨by simp, fun j u hj => ?_⟩
  simp only [List.getElem?_map, Option.map_eq_some_iff] at hj
  obtain ⟨x, hx, rfl⟩ := hj
  have : cs.getD j undef = x := by rw [Array.getD_eq_getD_getElem?, ← Array.getElem?_toList, hx]; rfl
  rw [this]; exact .lit
theorem parts_V {w : World} {G : Nat → Prop} {ρ : Names} {A : Allow} {a : Act} {parts : Array (Nat × Operand)} {vs : List (Nat × AVal)} (he : evParts ev parts.toList = some vs)
    (hop : ∀ x, x ∈ (parts.toList.map (·.2)).toArray → ∀ v, ev x = some v → V w G ρ A v (a.eval x)) :
    vs.length = (parts.map fun (p : Nat × Operand) => (p.1, a.eval p.2)).toList.length ∧ ∀ (j : Nat) p cp, vs[j]? = some p → (parts.map fun (p : Nat × Operand) => (p.1, a.eval p.2)).toList[j]? = some cp → p.1 = cp.1 ∧ V w G ρ A p.2 cp.2 := by
  obtain ⟨h1, h2⟩ := evParts_spec he
  refine ⟨by simp [h1], fun j p cp hp hcp => ?_⟩
  simp only [Array.toList_map, List.getElem?_map, Option.map_eq_some_iff] at hcp
  obtain ⟨q, hq, rfl⟩ := hcp
  obtain ⟨h3, h4⟩ := h2 j p q hp hq
  exact ⟨h3, hop q.2 (by simp only [List.mem_toArray, List.mem_map]; exact ⟨q, List.mem_of_getElem? hq, rfl⟩) _ h4⟩
theorem build_ok {t : Nat} {parts : Array (Nat × Operand)} {vs : List (Nat × AVal)} {cells cells' : List AVal} {pl : Array (Nat × Nat)} (ho : o.op = .build t parts) (hz : zcells P t = some cells) (hpl : placesOf P t = some pl)
    (hs : ∃ fields, P.underlying t = some (.struct fields)) (he : evParts ev parts.toList = some vs) (hf : fillA (pl[·]?) cells vs = some cells') : OpOk P Γ o ev get k ⟨.agg cells', k, [], []⟩ := by
  refine OpOk_quiet fun w G ρ H A a hr _ hop => ?_
  obtain ⟨i, z, hi, hzz, rfl⟩ := zcells_spec hz
  obtain ⟨fields, hu⟩ := hs
  simp only [placesOf, hu] at hpl
  have hpl' := pureRun_run P w _ _ hpl
  obtain ⟨h1, h2⟩ := parts_V (w := w) (G := G) (ρ := ρ) (A := A) (a := a) he (fun x hx v hv => hop x (by simpa [ho, Op.operands] using hx) v hv)
  obtain ⟨cs', h3, h4⟩ := fill_V (pl[·]?) vs _ _ cells' z.cells (VL_lits z.cells) h1 h2 hf
  refine ⟨.agg cs', ?_, .agg h4.1 h4.2⟩
  simp only [execOp, ho, Instr.build, zeroValue, typeInfo, Sem.run_bind, run_program, Result.andThen_ok, hi, Sem.run_pure, hzz, underlying, hu, hpl', h3]
theorem build_arr_ok {t n e s : Nat} {parts : Array (Nat × Operand)} {vs : List (Nat × AVal)} {cells cells' : List AVal} (ho : o.op = .build t parts) (hz : zcells P t = some cells) (hu : P.underlying t = some (.array n e))
    (hs : tsz P e = some s) (he : evParts ev parts.toList = some vs) (hf : fillA (fun i => some (i * s, s)) cells vs = some cells') : OpOk P Γ o ev get k ⟨.agg cells', k, [], []⟩ := by
  refine OpOk_quiet fun w G ρ H A a hr _ hop => ?_
  obtain ⟨i, z, hi, hzz, rfl⟩ := zcells_spec hz
  simp only [tsz, Option.map_eq_some_iff] at hs
  obtain ⟨inf, hinf, rfl⟩ := hs
  obtain ⟨h1, h2⟩ := parts_V (w := w) (G := G) (ρ := ρ) (A := A) (a := a) he (fun x hx v hv => hop x (by simpa [ho, Op.operands] using hx) v hv)
  obtain ⟨cs', h3, h4⟩ := fill_V (fun i => some (i * inf.size, inf.size)) vs _ _ cells' z.cells (VL_lits z.cells) h1 h2 hf
  refine ⟨.agg cs', ?_, .agg h4.1 h4.2⟩
  simp only [execOp, ho, Instr.build, zeroValue, typeInfo, Sem.run_bind, run_program, Result.andThen_ok, hi, Sem.run_pure, hzz, underlying, hu, sizeOf, hinf, h3]
theorem buildSlice_ok {t len s by' : Nat} {parts : Array (Nat × Operand)} {vs : List (Nat × AVal)} {zrow cells' : List AVal} (ho : o.op = .buildSlice t len parts) (hz : ezero P t = some (s, by', zrow))
    (hsmall : len * s ≤ 16777216) (he : evParts ev parts.toList = some vs) (hf : fillA (fun i => some (i * s, s)) (List.replicate len zrow).flatten vs = some cells') (hlen : cells'.length = len * s) :
    OpOk P Γ o ev get k ⟨.sl k 0 len, k + 1, [(k, some ⟨s, cells'.all clean, chunks s len cells'⟩)], []⟩ := by
  refine OpOk_new (cells := cells') ⟨fun r row hr => chunks_len hlen hr, fun r row c v hr hc => chunks_cell hr hc⟩ (fun h => h) fun w G ρ H A a hr _ hop => ?_
  unfold ezero at hz
  split at hz
  · rename_i e hu
    split at hz
    · rename_i i hi
      split at hz
      · rename_i z hzz
        split at hz
        · rename_i hsz
          cases hz
          obtain ⟨h1, h2⟩ := parts_V (w := w) (G := G) (ρ := ρ) (A := A) (a := a) he (fun x hx v hv => hop x (by simpa [ho, Op.operands] using hx) v hv)
          have hmade : (madeCells z.cells (len * i.size)).toList.map AVal.lit = (List.replicate len (z.cells.toList.map AVal.lit)).flatten := by
            apply List.ext_getElem?
            intro j
            by_cases hj : j < len * i.size
            · have hc : j % i.size < i.size := Nat.mod_lt _ hsz.2
              have hr' : j / i.size < len := Nat.div_lt_of_lt_mul (by rw [Nat.mul_comm]; exact hj)
              have e0 : j = (j / i.size) * i.size + j % i.size := by have := Nat.div_add_mod j i.size; rw [Nat.mul_comm] at this; omega
              rw [List.getElem?_map, Array.getElem?_toList]
              have e1 := madeCells_get (n := len) hsz.1 hsz.2 hr' hc
              rw [← e0] at e1
              rw [e1]
              have : ∀ (m : Nat) (row : List AVal) (r c : Nat), c < row.length → r < m → (List.replicate m row).flatten[r * row.length + c]? = row[c]? := by
                intro m
                induction m with
                | zero => intro row r c _ h; omega
                | succ m ih =>
                  intro row r c hc' hr''
                  rw [List.replicate_succ, List.flatten_cons]
                  cases r with
                  | zero => rw [List.getElem?_append_left (by omega)]; simp
                  | succ r =>
                    rw [List.getElem?_append_right (by rw [Nat.add_mul]; omega)]
                    have : (r + 1) * row.length + c - row.length = r * row.length + c := by rw [Nat.add_mul]; omega
                    rw [this]; exact ih row r c hc' (by omega)
              have e2 := this len (z.cells.toList.map AVal.lit) (j / i.size) (j % i.size) (by simp [hsz.1]; exact hc) hr'
              simp only [List.length_map, Array.length_toList, hsz.1] at e2
              rw [← e0] at e2
              rw [e2, List.getElem?_map, Array.getElem?_toList]
            · rw [List.getElem?_eq_none (by simp [size_madeCells]; omega), List.getElem?_eq_none (by simp [hsz.1]; omega)]
          obtain ⟨cs', h3, h4⟩ := fill_V (fun j => some (j * i.size, i.size)) vs _ _ cells' (madeCells z.cells (len * i.size)) (by rw [← hmade]; exact VL_lits _) h1 h2 hf
          have hsm : ¬ (len * i.size > 2 ^ 24) := by omega
          refine ⟨cs', e, w, .slice (some ⟨w.heap.size, 0, none⟩) len len, ?_, rfl, rfl, rfl, rfl, fun j u hj => ?_, .inr ⟨len, len, rfl, rfl, Nat.le_refl _, ?_, by rw [← h4.1, hlen]; exact Nat.le_refl _⟩⟩
          · by_cases h0 : len * i.size = 0
            · have hm0 : madeCells z.cells (len * i.size) = (Array.range (len * i.size)).map ((#[] : Array Value)[· % 0]!) := by rw [h0]; simp [madeCells]
              rw [hm0] at h3
              simp [execOp, ho, Instr.buildSlice, underlying, hu, sizeOf, typeInfo, hi, h0, newRow] at h3 ⊢
              rw [h3]; simp
            · simp [execOp, ho, Instr.buildSlice, underlying, hu, sizeOf, typeInfo, hi, hsm, h0, zeroValue, hzz, newRow, madeCells] at h3 ⊢
              rw [h3]; simp
          · have hlt := (List.getElem?_eq_some_iff.1 hj).1
            exact ⟨_, getD_of_lt (by rw [← h4.1]; exact hlt), h4.2 j u hj⟩
          · have : len * 1 ≤ len * i.size := Nat.mul_le_mul_left len hsz.2
            unfold maxLen; omega
        · cases hz
      · cases hz
    · cases hz
  · cases hz
end
end Go.AM
end
section
namespace Go.AM
theorem HRel.drop {Γ : List (Nat × List AVal)} {w : World} {G : Nat → Prop} {ρ : Names} {H : Owner} (h : HRel Γ w G ρ H) (id : Nat) (A : Allow) :
    HRel Γ w G (setN ρ id none) (updO H A [(id, none)]) ∧ ∀ S, Step S w G ρ w G (setN ρ id none) := by
  have hs : ∀ S : Allow, Step S w G ρ w G (setN ρ id none) := fun S => by
    refine ⟨Nat.le_refl _, fun _ _ _ => rfl, fun _ _ => rfl, fun _ h => h, fun _ h => .inl h, ?_, ?_, rfl, rfl, rfl⟩
    · rintro b ⟨i, s, hb⟩
      simp only [setN] at hb
      split at hb
      · cases hb
      · exact .inl ⟨i, s, hb⟩
    · intro i _
      simp only [setN]; split
      · exact .inl rfl
      · exact .inr rfl
  refine ⟨h.after (hs (fun _ => True)) _ ?_ ?_ ?_ h.ro, hs⟩
  · intro i hi
    simp only [updO] at hi
    simp only [setN]
    split at hi
    · rename_i he; rw [if_pos he]
    · rename_i he; rw [if_neg he]; exact h.dom i hi
  · intro i B A1 hi
    simp only [updO] at hi
    split at hi
    · cases hi
    · rename_i he
      obtain ⟨hA, b, hb, hg, _⟩ := h.blk i B A1 hi
      exact ⟨hA, .inl ⟨A1, b, hi, fun _ h => h, fun _ _ => trivial, by simp [setN, he], hb, rfl, hg⟩⟩
  · intro i j b s t hi hj
    simp only [setN] at hi hj
    split at hi
    · cases hi
    · split at hj
      · cases hj
      · exact h.inj i j b s t hi hj
section
variable {P : Program} {Γ : List (Nat × List AVal)} {o : Oper} {ev : Operand → Option AVal} {get : Nat → Option Blk} {k : Nat}
theorem run_append_room' (w : World) (t ty e : TypeId) (i : TypeInfo) (ht : P.underlying t = some (.slice e)) (hi : P.info? e = some i)
    (g sLen sCap : Nat) (cur : Array Value) (ety : TypeId) (hg : w.heap[g]? = some (.cells cur ety (0, 0)))
    (a : Addr) (m c : Nat) (news : List Value) (hl : news.length = m * i.size) (hnews : ∀ j u, news[j]? = some u → w.cell? (a.add j) = some u) (h1 : ∀ u ∈ news, u.oneCell' = true)
    (hroom : sLen + m ≤ sCap) (hfit : sLen * i.size + news.length ≤ cur.size) :
    (Builtin.append_ #[t, t] ty #[.slice (some ⟨g, 0, none⟩) sLen sCap, .slice (some a) m c]).run P w =
      .ok (.slice (some ⟨g, 0, none⟩) (sLen + m) sCap) (w.setRow g (cur.toList.take (sLen * i.size) ++ news ++ cur.toList.drop (sLen * i.size + news.length)).toArray) := by
  have hf := run_firstCells_some (P := P) w i.size m a m c news hl hnews
  have hst := run_storeCells_at (P := P) g (sLen * i.size) ety news 0 cur w hg (by simpa using hfit) h1
  simp only [Nat.add_zero] at hst
  simp [Builtin.append_, run_underlying ht, sizeOf, typeInfo, hi, Builtin.lenOf, hroom, hf, Addr.add_lit, hst]
structure Src (w : World) (G : Nat → Prop) (ρ : Names) (A : Allow) (s m : Nat) (rows : List (List AVal)) (pure : Bool) (cv : Value) : Prop where
  len : rows.length = m
  rlen : ∀ (r : Nat) row, rows[r]? = some row → row.length = s
  ex : 0 < m → ∃ b off cap, cv = .slice (some ⟨b, off, none⟩) m cap ∧ ∃ gv : Nat → Nat → Value, ∀ r row c v, rows[r]? = some row → row[c]? = some v →
    w.cell? ⟨b, off + r * s + c, none⟩ = some (gv r c) ∧ V w G (if pure then noNames else ρ) (if pure then noAllow else A) v (gv r c)
def news (s m : Nat) (gv : Nat → Nat → Value) : List Value := (List.range (m * s)).map fun j => gv (j / s) (j % s)
theorem news_len (s m : Nat) (gv : Nat → Nat → Value) : (news s m gv).length = m * s := by simp [news]
theorem news_get {s m : Nat} {gv : Nat → Nat → Value} {r c : Nat} (hr : r < m) (hc : c < s) : (news s m gv)[r * s + c]? = some (gv r c) := by
  have hlt : r * s + c < m * s := by
    have : (r + 1) * s ≤ m * s := Nat.mul_le_mul_right s hr
    rw [Nat.add_mul] at this; omega
  unfold news
  rw [List.getElem?_map, List.getElem?_range hlt]
  have h1 : (r * s + c) % s = c := by rw [Nat.add_comm, Nat.add_mul_mod_self_right]; exact Nat.mod_eq_of_lt hc
  have h2 : (r * s + c) / s = r := by rw [Nat.add_comm, Nat.add_mul_div_right _ _ (by omega), Nat.div_eq_of_lt hc]; omega
  simp [h1, h2]
theorem news_inv {s m : Nat} {gv : Nat → Nat → Value} {j : Nat} {u : Value} (h : (news s m gv)[j]? = some u) (hs : 0 < s) : j / s < m ∧ j % s < s ∧ u = gv (j / s) (j % s) := by
  unfold news at h
  rw [List.getElem?_map] at h
  simp only [Option.map_eq_some_iff] at h
  obtain ⟨i, hi, rfl⟩ := h
  obtain ⟨hlt, he⟩ := List.getElem?_eq_some_iff.1 hi
  simp at he hlt
  subst he
  exact ⟨Nat.div_lt_of_lt_mul (by rw [Nat.mul_comm]; exact hlt), Nat.mod_lt _ hs, rfl⟩
theorem row_get {rows : List (List AVal)} {s r c : Nat} (hl : ∀ (r : Nat) row, rows[r]? = some row → row.length = s) (hr : r < rows.length) (hc : c < s) : ∃ row v, rows[r]? = some row ∧ row[c]? = some v := by
  have h1 : rows[r]? = some rows[r] := List.getElem?_eq_getElem hr
  have h2 := hl r _ h1
  exact ⟨rows[r], rows[r][c]'(by omega), h1, List.getElem?_eq_getElem (by omega)⟩
def rowsOne (rows : List (List AVal)) : Prop := ∀ (r : Nat) row (c : Nat) v, rows[r]? = some row → row[c]? = some v → one v = true
theorem append_core {t s by' n m : Nat} {x y : Operand} {zrow : List AVal} {olds src : List (List AVal)} {pd ps : Bool} {rds : List Nat} {idd : Option Nat}
    (ho : o.op = .call { callee := .builtin .append, args := #[x, y], argTypes := #[t, t] }) (hz : ezero P t = some (s, by', zrow)) (hm : 0 < m) (hlen : n + m ≤ 9223372036854775807) (hby : (n + m) * by' ≤ 140737488355328)
    (hone : rowsOne src) (hidk : ∀ id, idd = some id → id < k)
    (hdst : ∀ w G ρ H (A : Allow) (a : Act), HRel Γ w G ρ H → (∀ id, id ∈ rds → ∃ B A', get id = some B ∧ H id = some (B, A') ∧ ∀ i, A' i → A i) → (∀ x, x ∈ o.op.operands → ∀ v, ev x = some v → V w G ρ A v (a.eval x)) →
      (idd = none ∧ n = 0 ∧ olds = [] ∧ a.eval x = .slice none 0 0) ∨
      (∃ id B A', idd = some id ∧ H id = some (B, A') ∧ (∀ i, A' i → A i) ∧ B.sz = s ∧ B.pure = pd ∧ B.rows = olds ∧ olds.length = n ∧ V w G ρ A (.sl id 0 n) (a.eval x)))
    (hsrc : ∀ w G ρ H (A : Allow) (a : Act), HRel Γ w G ρ H → (∀ id, id ∈ rds → ∃ B A', get id = some B ∧ H id = some (B, A') ∧ ∀ i, A' i → A i) → (∀ x, x ∈ o.op.operands → ∀ v, ev x = some v → V w G ρ A v (a.eval x)) →
      Src w G ρ A s m src ps (a.eval y)) :
    OpOk P Γ o ev get k ⟨.sl k 0 (n + m), k + 1, (k, some ⟨s, (idd.isNone || pd) && ps, olds ++ src⟩) :: (match idd with | some id => [(id, none)] | none => []), rds⟩ := by
  unfold ezero at hz
  split at hz
  case h_2 => cases hz
  rename_i e hu
  split at hz
  case h_2 => cases hz
  rename_i i hi
  split at hz
  case h_2 => cases hz
  rename_i z hzz
  split at hz
  case isFalse => cases hz
  rename_i hsz
  cases hz
  intro w G ρ H A a hr hA hf hrd hop next Q hn
  have hkA : ¬ A k := fun hk => Nat.lt_irrefl _ (hA k hk)
  obtain ⟨hρk, hfr⟩ := hf k (Nat.le_refl _) (Nat.lt_succ_self _)
  obtain ⟨hsl, hsrl, hsex⟩ := hsrc w G ρ H A a hr hrd hop
  obtain ⟨sb, soff, scap, hsv, gv, hgv⟩ := hsex hm
  have hnl := news_len i.size m gv
  have hcells : ∀ j u, (news i.size m gv)[j]? = some u → w.cell? ((⟨sb, soff, none⟩ : Addr).add j) = some u := fun j u hj => by
    obtain ⟨h1, h2, rfl⟩ := news_inv hj hsz.2
    obtain ⟨row, v, h3, h4⟩ := row_get hsrl (by omega : j / i.size < src.length) h2
    have h5 := (hgv _ row _ v h3 h4).1
    rw [Addr.add_mid, ← h5]
    have : soff + j = soff + j / i.size * i.size + j % i.size := by have := Nat.div_add_mod j i.size; rw [Nat.mul_comm] at this; omega
    rw [this]
  have hone' : ∀ u ∈ news i.size m gv, u.oneCell' = true := fun u hu => by
    obtain ⟨j, hj⟩ := List.getElem?_of_mem hu
    obtain ⟨h1, h2, rfl⟩ := news_inv hj hsz.2
    obtain ⟨row, v, h3, h4⟩ := row_get hsrl (by omega : j / i.size < src.length) h2
    exact one_V (hgv _ row _ v h3 h4).2 (hone _ row _ v h3 h4)
  have hrowlen : ∀ (hol : ∀ (r : Nat) row, olds[r]? = some row → row.length = i.size) (r : Nat) row, (olds ++ src)[r]? = some row → row.length = i.size := fun hol r row h => by
    rw [List.getElem?_append] at h
    split at h
    · exact hol r row h
    · exact hsrl _ row h
  have hnewV : ∀ (pp : Bool) (v : AVal) (cv : Value), (pp = true → ps = true) → V w G (if ps then noNames else ρ) (if ps then noAllow else A) v cv → V w G (if pp then noNames else ρ) (if pp then noAllow else A) v cv := fun pp v cv hp h => by
    cases ps with
    | true =>
      cases pp with
      | true => simpa using h
      | false => simp only [if_true] at h; simp only [Bool.false_eq_true, if_false]; exact h.weaken
    | false => cases pp with
      | true => exact absurd (hp rfl) (by simp)
      | false => simpa using h
  have hval : ∀ cv w', ((execOp a.eval o).run P w = .ok (.value cv) w') = ((Builtin.append_ #[t, t] o.type #[a.eval x, .slice (some ⟨sb, soff, none⟩) m scap]).run P w = .ok cv w') := fun cv w' => by
    simp only [execOp, ho, resolve, invoke, builtin]
    simp only [List.map_toArray, List.map_cons, List.map_nil, Sem.run_bind, Sem.run_pure, Result.andThen_ok, hsv]
    cases (Builtin.append_ #[t, t] o.type #[a.eval x, .slice (some ⟨sb, soff, none⟩) m scap]).run P w <;> simp [Result.andThen]
  rcases hdst w G ρ H A a hr hrd hop with ⟨rfl, rfl, rfl, hxv⟩ | ⟨id, B, A', rfl, hH, hAA, hBs, rfl, rfl, rfl, hV⟩
  ·
    have hrun := run_append_nil (P := P) w t o.type e i z hu hi hzz ⟨sb, soff, none⟩ m scap (news i.size m gv) hnl hcells hm (by omega) (by have : (0 + m) * i.bytes ≤ 140737488355328 := hby; rw [Nat.zero_add] at this; omega)
    rw [← hxv] at hrun
    have hrun' := (hval _ _).mpr hrun
    unfold Oper.wp
    rw [hrun']
    have hge := grownCap_ge w m 0 e
    have hcm := grownCap_le_maxLen w m 0 e (by unfold maxLen; omega)
    have hrel := hr.alloc k hρk hfr ⟨i.size, (Option.isNone (none : Option Nat) || pd) && ps, ([] : List (List AVal)) ++ src⟩ ((news i.size m gv).toArray ++ Builtin.zeroCells z.cells (grownCap w m 0 e - m)) e A (fun i => A i ∨ (k ≤ i ∧ i < k + 1)) hkA (fun _ h => .inl h) (.inr ⟨Nat.le_refl _, Nat.lt_succ_self _⟩)
      (fun r row h => hsrl r row (by simpa using h))
      (fun r row c v h1 h2 => by
        simp only [List.nil_append] at h1
        have hc : c < i.size := by have := (List.getElem?_eq_some_iff.1 h2).1; have := hsrl r row h1; omega
        have hrm : r < m := by have := (List.getElem?_eq_some_iff.1 h1).1; omega
        refine ⟨gv r c, ?_, hnewV _ v _ (by simp) (hgv r row c v h1 h2).2⟩
        rw [Array.getElem?_append_left (by
          have := news_get (gv := gv) hrm hc
          have := (List.getElem?_eq_some_iff.1 this).1
          simpa using this), List.getElem?_toArray]
        exact news_get hrm hc)
      w.drew rfl rfl rfl rfl
    have hst := step_alloc (w := w) (G := G) (ρ := ρ) k i.size (.cells ((news i.size m gv).toArray ++ Builtin.zeroCells z.cells (grownCap w m 0 e - m)) e) w.drew rfl rfl rfl rfl
    refine hn _ G _ _ hrel ?_ ⟨hst.size, hst.keep, hst.shape, hst.g, hst.g', hst.own, fun id hid => hst.ids id (fun he => hid (show k ≤ id ∧ id < k + 1 by omega)), hst.os, hst.tape, hst.output⟩
    simp only [Nat.zero_add]
    refine .sl (b := w.heap.size) (s := i.size) (ty := e) (m := ((news i.size m gv).toArray ++ Builtin.zeroCells z.cells (grownCap w m 0 e - m)).size) (.inr ⟨Nat.le_refl _, Nat.lt_succ_self _⟩) (by simp [setN]) ?_ ?_ hge hcm (.inr (by simp))
    · have := heap_push_new w.drew (.cells ((news i.size m gv).toArray ++ Builtin.zeroCells z.cells (grownCap w m 0 e - m)) e)
      have e1 : w.drew.heap.size = w.heap.size := rfl
      rw [e1] at this
      unfold World.shape?
      rw [this]
    · rw [Array.size_append, List.size_toArray, hnl, size_zeroCells, hsz.1, ← Nat.add_mul]
      exact Nat.mul_le_mul_right _ (by omega)
  ·
    have hidk' := hidk id rfl
    obtain ⟨hAid, b, hb, hg, ⟨⟨C, _, ⟨hC0, hH0⟩, hrows⟩, hbl⟩⟩ := hr.blk id B A' hH
    have hsB : B.sz = i.size := hBs
    have hnC : B.rows.length * i.size ≤ C.size := by
      by_cases h0 : B.rows.length = 0
      · rw [h0]; simp
      · obtain ⟨row, v, h1, h2⟩ := row_get (s := i.size) (r := B.rows.length - 1) (c := i.size - 1) (fun r row h => by rw [← hsB]; exact hbl r row h) (by omega) (by omega)
        obtain ⟨cu, h3, _⟩ := hrows _ row _ v h1 h2
        have h4 := (Array.getElem?_eq_some_iff.1 h3).1
        rw [hsB] at h4
        have : B.rows.length * i.size = (B.rows.length - 1) * i.size + i.size := by
          have e1 : B.rows.length = (B.rows.length - 1) + 1 := by omega
          rw [e1, Nat.add_mul]; simp
        omega
    have holdV : ∀ (pp : Bool) (v : AVal) (cv : Value), (pp = true → B.pure = true) → V w G (if B.pure then noNames else ρ) (if B.pure then noAllow else A') v cv → V w G (if pp then noNames else ρ) (if pp then noAllow else A) v cv := fun pp v cv hp h => by
      cases hbp : B.pure with
      | true =>
        rw [hbp] at h
        cases pp with
        | true => simpa using h
        | false => simp only [if_true] at h; simp only [Bool.false_eq_true, if_false]; exact h.weaken
      | false =>
        rw [hbp] at h hp
        cases pp with
        | true => exact absurd (hp rfl) (by simp)
        | false => simp only [Bool.false_eq_true, if_false] at h ⊢; exact h.mono (fun _ h => h) (fun _ _ => rfl) (fun _ _ => rfl) hAA (fun _ _ => .inr rfl)
    generalize hev : a.eval x = cvx at hV hval
    generalize hbn : B.rows.length = bn at hV
    cases hV with
    | dangs _ hnn => rw [hb] at hnn; cases hnn
    | sl0 ha hρ =>
      have hb0 : B.rows.length = 0 := hbn
      have hrl : B.rows = [] := List.length_eq_zero_iff.1 hb0
      have hrun := run_append_nil (P := P) w t o.type e i z hu hi hzz ⟨sb, soff, none⟩ m scap (news i.size m gv) hnl hcells hm (by omega) (by have : (0 + m) * i.bytes ≤ (B.rows.length + m) * i.bytes := Nat.mul_le_mul_right _ (by omega); rw [Nat.zero_add] at this; omega)
      have hrun' := (hval _ _).mpr hrun
      unfold Oper.wp
      rw [hrun']
      have hge := grownCap_ge w m 0 e
      have hcm := grownCap_le_maxLen w m 0 e (by unfold maxLen; omega)
      obtain ⟨hrd0, hsd⟩ := hr.drop id (fun i => A i ∨ (k ≤ i ∧ i < k + 1))
      have hρ0 : ∀ v cv, V w G ρ A v cv → V w G (setN ρ id none) A v cv := fun v cv h => h.mono (fun _ h => h) (fun _ _ => rfl) (fun _ _ => rfl) (fun _ h => h) (fun j _ => (hsd A).ids j ‹_›)
      have hVd : ∀ (pp : Bool) v cv, V w G (if pp then noNames else ρ) (if pp then noAllow else A) v cv → V w G (if pp then noNames else setN ρ id none) (if pp then noAllow else A) v cv := fun pp v cv h => by
        cases pp with
        | true => simpa using h
        | false => simp only [Bool.false_eq_true, if_false] at h ⊢; exact hρ0 v cv h
      have hrel := hrd0.alloc k (by simp only [setN]; split <;> simp_all) (fun j B1 A1 hj => by
          simp only [updO] at hj
          split at hj
          · cases hj
          · exact hfr j B1 A1 hj) ⟨i.size, (Option.isNone (some id) || B.pure) && ps, B.rows ++ src⟩
        ((news i.size m gv).toArray ++ Builtin.zeroCells z.cells (grownCap w m 0 e - m)) e A (fun i => A i ∨ (k ≤ i ∧ i < k + 1)) hkA (fun _ h => .inl h) (.inr ⟨Nat.le_refl _, Nat.lt_succ_self _⟩)
        (hrowlen (fun r row h => by rw [← hsB]; exact hbl r row h))
        (fun r row c v h1 h2 => by
          have h1' : (B.rows ++ src)[r]? = some row := h1
          rw [hrl, List.nil_append] at h1'
          have hc : c < i.size := by have := (List.getElem?_eq_some_iff.1 h2).1; have := hsrl r row h1'; omega
          have hrm : r < m := by have := (List.getElem?_eq_some_iff.1 h1').1; omega
          have h9 := news_get (gv := gv) hrm hc
          refine ⟨gv r c, ?_, hVd _ v _ (hnewV _ v _ (by simp) (hgv r row c v h1' h2).2)⟩
          rw [Array.getElem?_append_left (by have := (List.getElem?_eq_some_iff.1 h9).1; simpa using this), List.getElem?_toArray]
          exact h9)
        w.drew rfl rfl rfl rfl
      have hst := (hsd (fun j => j ≠ k)).trans (step_alloc (w := w) (G := G) (ρ := setN ρ id none) k i.size (.cells ((news i.size m gv).toArray ++ Builtin.zeroCells z.cells (grownCap w m 0 e - m)) e) w.drew rfl rfl rfl rfl) (fun _ h => h)
      have hup : updO (updO H (fun i => A i ∨ (k ≤ i ∧ i < k + 1)) [(id, none)]) (fun i => A i ∨ (k ≤ i ∧ i < k + 1)) [(k, some ⟨i.size, (Option.isNone (some id) || B.pure) && ps, B.rows ++ src⟩)]
          = updO H (fun i => A i ∨ (k ≤ i ∧ i < k + 1)) [(k, some ⟨i.size, (Option.isNone (some id) || B.pure) && ps, B.rows ++ src⟩), (id, none)] := rfl
      rw [hup] at hrel
      refine hn _ G _ _ hrel ?_ ⟨hst.size, hst.keep, hst.shape, hst.g, hst.g', hst.own, fun j hj => hst.ids j (fun he => hj (show k ≤ j ∧ j < k + 1 by omega)), hst.os, hst.tape, hst.output⟩
      have e0 : B.rows.length + m = m := by omega
      show V _ G _ (fun i => A i ∨ (k ≤ i ∧ i < k + 1)) (AVal.sl k 0 (B.rows.length + m)) _
      rw [e0]
      refine .sl (b := w.heap.size) (s := i.size) (ty := e) (m := ((news i.size m gv).toArray ++ Builtin.zeroCells z.cells (grownCap w m 0 e - m)).size) (.inr ⟨Nat.le_refl _, Nat.lt_succ_self _⟩) (by simp [setN]) ?_ ?_ hge hcm (.inr (by simp))
      · have := heap_push_new w.drew (.cells ((news i.size m gv).toArray ++ Builtin.zeroCells z.cells (grownCap w m 0 e - m)) e)
        have e1 : w.drew.heap.size = w.heap.size := rfl
        rw [e1] at this
        unfold World.shape?
        rw [this]
      · rw [Array.size_append, List.size_toArray, hnl, size_zeroCells, hsz.1, ← Nat.add_mul]
        exact Nat.mul_le_mul_right _ (by omega)
    | sl ha hρ hsh hm1 hn1 hc1 hoff =>
      subst hbn
      rw [hb] at hρ; cases hρ
      rename_i ty ms cap off
      have hC : w.heap[b]? = some (.cells C ty (0, 0)) := by rw [hC0, hH0.shaped hC0 hsh]
      have hsC : ms = C.size := by unfold World.shape? at hsh; rw [hC] at hsh; simp at hsh; exact hsh.symm
      subst hsC
      by_cases hroom : B.rows.length + m ≤ cap
      ·
        have hoff' : off = 0 := by rcases hoff with h | h; · omega
                                   · simpa using h
        subst hoff'
        have hfit : B.rows.length * i.size + (news i.size m gv).length ≤ C.size := by
          rw [hnl, ← Nat.add_mul]
          have h5 : (B.rows.length + m) * i.size ≤ cap * i.size := Nat.mul_le_mul_right _ hroom
          rw [hsB] at hm1
          simp only [Nat.zero_add] at hm1
          omega
        have hrun := run_append_room' (P := P) w t o.type e i hu hi b B.rows.length cap C ty hC ⟨sb, soff, none⟩ m scap (news i.size m gv) hnl hcells hone' hroom hfit
        have hrun' := (hval _ _).mpr hrun
        unfold Oper.wp
        rw [hrun']
        have hseg := seg_get (l := C.toList) (vs := news i.size m gv) (o := B.rows.length * i.size) (by simpa using hfit)
        have hrw := HRel.rewrite hr hb k (.inr ⟨hρk, hfr⟩) ⟨i.size, (Option.isNone (some id) || B.pure) && ps, B.rows ++ src⟩ hsB.symm
          (C.toList.take (B.rows.length * i.size) ++ news i.size m gv ++ C.toList.drop (B.rows.length * i.size + (news i.size m gv).length)).toArray ty A (fun i => A i ∨ (k ≤ i ∧ i < k + 1)) (.inr hkA) (fun _ h => .inl h) (.inr ⟨Nat.le_refl _, Nat.lt_succ_self _⟩)
          (w.setRow b (C.toList.take (B.rows.length * i.size) ++ news i.size m gv ++ C.toList.drop (B.rows.length * i.size + (news i.size m gv).length)).toArray)
          (setRow_heap w b C _ ty _ hC) (fun j hj => setRow_other w b j _ hj) (size_setRow _ _ _)
          (by
            unfold World.shape?
            rw [setRow_heap w b C _ ty _ hC, hC]
            simp; omega)
          rfl rfl rfl (hrowlen (fun r row h => by rw [← hsB]; exact hbl r row h))
          (fun r row c v h1 h2 => by
            have h1' : (B.rows ++ src)[r]? = some row := h1
            have hc : c < i.size := by have := (List.getElem?_eq_some_iff.1 h2).1; have := hrowlen (fun r row h => by rw [← hsB]; exact hbl r row h) r row h1'; omega
            show ∃ cv, (C.toList.take (B.rows.length * i.size) ++ news i.size m gv ++ C.toList.drop (B.rows.length * i.size + (news i.size m gv).length)).toArray[r * i.size + c]? = some cv ∧ V w G (if ((Option.isNone (some id) || B.pure) && ps) then noNames else ρ) (if ((Option.isNone (some id) || B.pure) && ps) then noAllow else A) v cv
            rw [List.getElem?_toArray, hseg]
            rw [List.getElem?_append] at h1'
            split at h1'
            · rename_i hlt
              have h6 : r * i.size + c < B.rows.length * i.size := by
                have : (r + 1) * i.size ≤ B.rows.length * i.size := Nat.mul_le_mul_right _ hlt
                rw [Nat.add_mul] at this; omega
              rw [if_pos h6]
              obtain ⟨cu, h7, h8⟩ := hrows r row c v h1' h2
              rw [hsB] at h7
              exact ⟨cu, by rw [Array.getElem?_toList]; exact h7, holdV _ v cu (by simp; intro h _; exact h) h8⟩
            · rename_i hge
              have hrm : r - B.rows.length < m := by have := (List.getElem?_eq_some_iff.1 h1').1; omega
              have h9 := news_get (gv := gv) hrm hc
              have h10 := (List.getElem?_eq_some_iff.1 h9).1
              have e1 : r * i.size + c = B.rows.length * i.size + ((r - B.rows.length) * i.size + c) := by
                have : r * i.size = B.rows.length * i.size + (r - B.rows.length) * i.size := by rw [← Nat.add_mul]; congr 1; omega
                omega
              rw [e1, if_neg (by omega), if_pos (by omega)]
              have e2 : B.rows.length * i.size + ((r - B.rows.length) * i.size + c) - B.rows.length * i.size = (r - B.rows.length) * i.size + c := by omega
              rw [e2]
              exact ⟨_, h9, hnewV _ v _ (by simp) (hgv _ row c v h1' h2).2⟩)
        obtain ⟨hrel, hst⟩ := hrw
        refine hn _ G _ _ hrel ?_ ⟨hst.size, hst.keep, hst.shape, hst.g, hst.g', hst.own, fun j hj => hst.ids j (.inl (fun he => hj (show k ≤ j ∧ j < k + 1 by omega))), hst.os, hst.tape, hst.output⟩
        have hne : (0 : Nat) * B.sz = 0 := by simp
        refine .sl (b := b) (s := B.sz) (ty := ty) (m := C.size) (.inr ⟨Nat.le_refl _, Nat.lt_succ_self _⟩) (by simp [setN]) ?_ hm1 hroom hc1 (.inr (by simp))
        unfold World.shape?
        rw [setRow_heap w b C _ ty _ hC]
        have hl2 : (C.toList.take (B.rows.length * i.size) ++ news i.size m gv ++ C.toList.drop (B.rows.length * i.size + (news i.size m gv).length)).toArray.size = C.size := by
          simp only [List.size_toArray, List.length_append, List.length_take, List.length_drop, Array.length_toList]; omega
        simp only [hl2]
      ·
        have holds : ∀ j v, (C.toList.take (B.rows.length * i.size))[j]? = some v → w.cell? ((⟨b, off, none⟩ : Addr).add j) = some v := fun j v hj => by
          rw [List.getElem?_take] at hj
          split at hj
          · rename_i hlt
            have hn0 : 0 < B.rows.length := Nat.pos_of_ne_zero (fun h0 => by rw [h0] at hlt; simp at hlt)
            have hoff' : off = 0 := by rcases hoff with h | h; · omega
                                       · simpa using h
            subst hoff'
            rw [Addr.add_mid, cell_of_row w b _ C ty (0, 0) hC, ← Array.getElem?_toList, Nat.zero_add]
            exact hj
          · cases hj
        have hol : (C.toList.take (B.rows.length * i.size)).length = B.rows.length * i.size := by simp; omega
        have hrun := run_append_grow (P := P) w t o.type e i z hu hi hzz ⟨b, off, none⟩ B.rows.length cap _ hol holds ⟨sb, soff, none⟩ m scap (news i.size m gv) hnl hcells (by omega) (by omega) (growslice_fits (by omega) hby)
        have hrun' := (hval _ _).mpr hrun
        unfold Oper.wp
        rw [hrun']
        have hge := grownCap_ge w (B.rows.length + m) cap e
        have hcm := grownCap_le_maxLen w (B.rows.length + m) cap e (by unfold maxLen; omega)
        obtain ⟨hrd0, hsd⟩ := hr.drop id (fun i => A i ∨ (k ≤ i ∧ i < k + 1))
        have hρ0 : ∀ v cv, V w G ρ A v cv → V w G (setN ρ id none) A v cv := fun v cv h => h.mono (fun _ h => h) (fun _ _ => rfl) (fun _ _ => rfl) (fun _ h => h) (fun j _ => (hsd A).ids j ‹_›)
        have hVd : ∀ (pp : Bool) v cv, V w G (if pp then noNames else ρ) (if pp then noAllow else A) v cv → V w G (if pp then noNames else setN ρ id none) (if pp then noAllow else A) v cv := fun pp v cv h => by
          cases pp with
          | true => simpa using h
          | false => simp only [Bool.false_eq_true, if_false] at h ⊢; exact hρ0 v cv h
        have hrel := hrd0.alloc k (by simp only [setN]; split <;> simp_all) (fun j B1 A1 hj => by
            simp only [updO] at hj
            split at hj
            · cases hj
            · exact hfr j B1 A1 hj) ⟨i.size, (Option.isNone (some id) || B.pure) && ps, B.rows ++ src⟩
          ((C.toList.take (B.rows.length * i.size)).toArray ++ (news i.size m gv).toArray ++ Builtin.zeroCells z.cells (grownCap w (B.rows.length + m) cap e - (B.rows.length + m))) e A (fun i => A i ∨ (k ≤ i ∧ i < k + 1)) hkA (fun _ h => .inl h) (.inr ⟨Nat.le_refl _, Nat.lt_succ_self _⟩)
          (hrowlen (fun r row h => by rw [← hsB]; exact hbl r row h))
          (fun r row c v h1 h2 => by
            have h1' : (B.rows ++ src)[r]? = some row := h1
            have hc : c < i.size := by have := (List.getElem?_eq_some_iff.1 h2).1; have := hrowlen (fun r row h => by rw [← hsB]; exact hbl r row h) r row h1'; omega
            show ∃ cv, ((C.toList.take (B.rows.length * i.size)).toArray ++ (news i.size m gv).toArray ++ Builtin.zeroCells z.cells (grownCap w (B.rows.length + m) cap e - (B.rows.length + m)))[r * i.size + c]? = some cv ∧ V w G (if ((Option.isNone (some id) || B.pure) && ps) then noNames else setN ρ id none) (if ((Option.isNone (some id) || B.pure) && ps) then noAllow else A) v cv
            rw [List.getElem?_append] at h1'
            split at h1'
            · rename_i hlt
              have h6 : r * i.size + c < B.rows.length * i.size := by
                have : (r + 1) * i.size ≤ B.rows.length * i.size := Nat.mul_le_mul_right _ hlt
                rw [Nat.add_mul] at this; omega
              obtain ⟨cu, h7, h8⟩ := hrows r row c v h1' h2
              rw [hsB] at h7
              refine ⟨cu, ?_, hVd _ v cu (holdV _ v cu (by simp; intro h _; exact h) h8)⟩
              rw [Array.append_assoc, Array.getElem?_append_left (by simp; omega), List.getElem?_toArray, List.getElem?_take, if_pos h6, Array.getElem?_toList]
              exact h7
            · rename_i hge
              have hrm : r - B.rows.length < m := by have := (List.getElem?_eq_some_iff.1 h1').1; omega
              have h9 := news_get (gv := gv) hrm hc
              have h10 := (List.getElem?_eq_some_iff.1 h9).1
              have e1 : r * i.size + c = B.rows.length * i.size + ((r - B.rows.length) * i.size + c) := by
                have : r * i.size = B.rows.length * i.size + (r - B.rows.length) * i.size := by rw [← Nat.add_mul]; congr 1; omega
                omega
              refine ⟨_, ?_, hVd _ v _ (hnewV _ v _ (by simp) (hgv _ row c v h1' h2).2)⟩
              have hsz1 : (C.toList.take (B.rows.length * i.size)).toArray.size = B.rows.length * i.size := by rw [List.size_toArray]; exact hol
              rw [Array.append_assoc, Array.getElem?_append_right (by rw [hsz1]; omega), hsz1, e1, Nat.add_sub_cancel_left, Array.getElem?_append_left (by rw [List.size_toArray]; exact h10), List.getElem?_toArray]
              exact h9)
          w.drew rfl rfl rfl rfl
        have hst := (hsd (fun j => j ≠ k)).trans (step_alloc (w := w) (G := G) (ρ := setN ρ id none) k i.size (.cells ((C.toList.take (B.rows.length * i.size)).toArray ++ (news i.size m gv).toArray ++ Builtin.zeroCells z.cells (grownCap w (B.rows.length + m) cap e - (B.rows.length + m))) e) w.drew rfl rfl rfl rfl) (fun _ h => h)
        have hup : updO (updO H (fun i => A i ∨ (k ≤ i ∧ i < k + 1)) [(id, none)]) (fun i => A i ∨ (k ≤ i ∧ i < k + 1)) [(k, some ⟨i.size, (Option.isNone (some id) || B.pure) && ps, B.rows ++ src⟩)]
            = updO H (fun i => A i ∨ (k ≤ i ∧ i < k + 1)) [(k, some ⟨i.size, (Option.isNone (some id) || B.pure) && ps, B.rows ++ src⟩), (id, none)] := rfl
        rw [hup] at hrel
        refine hn _ G _ _ hrel ?_ ⟨hst.size, hst.keep, hst.shape, hst.g, hst.g', hst.own, fun j hj => hst.ids j (fun he => hj (show k ≤ j ∧ j < k + 1 by omega)), hst.os, hst.tape, hst.output⟩
        refine .sl (b := w.heap.size) (s := i.size) (ty := e) (m := ((C.toList.take (B.rows.length * i.size)).toArray ++ (news i.size m gv).toArray ++ Builtin.zeroCells z.cells (grownCap w (B.rows.length + m) cap e - (B.rows.length + m))).size) (.inr ⟨Nat.le_refl _, Nat.lt_succ_self _⟩) (by simp [setN]) ?_ ?_ hge hcm (.inr (by simp))
        · have := heap_push_new w.drew (.cells ((C.toList.take (B.rows.length * i.size)).toArray ++ (news i.size m gv).toArray ++ Builtin.zeroCells z.cells (grownCap w (B.rows.length + m) cap e - (B.rows.length + m))) e)
          have e1 : w.drew.heap.size = w.heap.size := rfl
          rw [e1] at this
          unfold World.shape?
          rw [this]
        · rw [Array.size_append, Array.size_append, List.size_toArray, List.size_toArray, hnl, hol, size_zeroCells, hsz.1, ← Nat.add_mul, ← Nat.add_mul]
          exact Nat.mul_le_mul_right _ (by omega)
end
end Go.AM
end
section
namespace Go.AM
def del {α : Type} (l : List (Nat × α)) (k : Nat) : List (Nat × α) :=
  match l with
  | [] => []
  | (a, x) :: r => if a = k then del r k else (a, x) :: del r k
theorem look_del {α : Type} : ∀ (l : List (Nat × α)) (k j : Nat), look (del l k) j = if j = k then none else look l j
  | [], k, j => by simp [del, look]
  | (a, x) :: r, k, j => by
    simp only [del]
    by_cases h : a = k
    · rw [if_pos h, look_del r k j]
      by_cases h2 : j = k
      · rw [if_pos h2, if_pos h2]
      · rw [if_neg h2, if_neg h2]; simp only [look]; rw [if_neg (by omega)]
    · rw [if_neg h]
      simp only [look]
      by_cases h3 : a = j
      · rw [if_pos h3, if_pos h3, if_neg (by omega)]
      · rw [if_neg h3, if_neg h3]; exact look_del r k j
def putO (fr : Fr) (d : Option Nat) (v : AVal) : Fr :=
  match d with
  | some t => (t, v) :: del fr t
  | none => fr
def updH (H : Heap) : List (Nat × Option Blk) → Heap
  | [] => H
  | (id, some B) :: r => (id, B) :: del (updH H r) id
  | (id, none) :: r => del (updH H r) id
def modOf (upd : List (Nat × Option Blk)) (id : Nat) : Option (Option Blk) := look upd id
theorem look_putO (fr : Fr) (d : Option Nat) (v : AVal) (t : Nat) : look (putO fr d v) t = if d = some t then some v else look fr t := by
  cases d with
  | none => simp [putO]
  | some x =>
    simp only [putO, look]
    by_cases h : x = t
    · rw [if_pos h, if_pos (by rw [h])]
    · rw [if_neg h, look_del, if_neg (fun e => h e.symm), if_neg (fun e => h (by cases e; rfl))]
theorem look_updH (H : Heap) : ∀ (upd : List (Nat × Option Blk)) (id : Nat), look (updH H upd) id = match modOf upd id with | some x => x | none => look H id
  | [], id => rfl
  | (i, some B) :: r, id => by
    simp only [updH, look, modOf]
    by_cases h : i = id
    · rw [if_pos h, if_pos h]
    · rw [if_neg h, if_neg h, look_del, if_neg (fun e => h e.symm)]; exact look_updH H r id
  | (i, none) :: r, id => by
    simp only [updH, look, modOf]
    by_cases h : i = id
    · rw [if_pos h, look_del, if_pos h.symm]
    · rw [if_neg h, look_del, if_neg (fun e => h e.symm)]; exact look_updH H r id
theorem updO_modOf (H : Owner) (A : Allow) : ∀ (upd : List (Nat × Option Blk)) (id : Nat), updO H A upd id = match modOf upd id with | some x => x.map fun B => (B, A) | none => H id
  | [], id => rfl
  | (i, x) :: r, id => by
    simp only [updO, modOf, look]
    by_cases h : id = i
    · rw [if_pos h, if_pos h.symm]
    · rw [if_neg h, if_neg (fun e => h e.symm)]; exact updO_modOf H A r id
def gval (want : Bool) : Value → Bool
  | .bool b => b == want
  | _ => false
def guardOf (all : Array Oper) (fr : Fr) (o : Oper) : Option Bool :=
  match o.guard with
  | none => some true
  | some (j, want) => match ((all[j]?).bind (·.dst)).bind (look fr) with
    | some (.lit v) => some (gval want v)
    | _ => none
structure Good (P : Program) (Γ : List (Nat × List AVal)) (o : Oper) (ev : Operand → Option AVal) (get : Nat → Option Blk) (k : Nat) (out : Out) : Prop where
  ok : OpOk P Γ o ev get k out
  rds : ∀ id, id ∈ out.rds → (get id).isSome = true
  le : k ≤ out.k
structure Foot where
  rds : List Nat
  mods : List Nat
  k : Nat
  k' : Nat
def Run (P : Program) (Γ : List (Nat × List AVal)) (all : Array Oper) : List Oper → Nat → Fr → Heap → (List Foot → Nat → Fr → Heap → Prop) → Prop
  | [], k, fr, H, K => K [] k fr H
  | o :: r, k, fr, H, K =>
    (guardOf all fr o = some false ∧ Run P Γ all r k (putO fr o.dst (.lit undef)) H (fun tr => K (⟨[], [], k, k⟩ :: tr))) ∨
    (guardOf all fr o = some true ∧ ∃ out, Good P Γ o (aeval Γ fr) (look H) k out ∧ Run P Γ all r out.k (putO fr o.dst out.v) (updH H out.upd) (fun tr => K (⟨out.rds, out.upd.map (·.1), k, out.k⟩ :: tr)))
def dstOk (nt : Nat) (ops : Array Oper) : Bool := ops.toList.all fun o => match o.dst with | some d => decide (d < nt) | none => true
section
variable {P : Program} {Γ : List (Nat × List AVal)} {nt kb : Nat} {Q : AQ} {k : Nat} {fr : Fr} {H : Heap}
theorem alw_or (A0 : Allow) (kb k k' : Nat) (h0 : kb ≤ k) (h : k ≤ k') : (fun i => alw A0 kb k i ∨ (k ≤ i ∧ i < k')) = alw A0 kb k' := funext fun i => by
  simp only [alw, eq_iff_iff]
  constructor
  · rintro ((h | h) | h)
    · exact .inl h
    · exact .inr ⟨h.1, by omega⟩
    · exact .inr ⟨by omega, h.2⟩
  · rintro (h | h)
    · exact .inl (.inl h)
    · by_cases hi : i < k
      · exact .inl (.inr ⟨h.1, hi⟩)
      · exact .inr ⟨by omega, h.2⟩
theorem alw_lt {A0 : Allow} {kb k : Nat} (hA0 : ∀ i, A0 i → i < kb) (h : kb ≤ k) : ∀ i, alw A0 kb k i → i < k := fun i hi => by
  rcases hi with hi | hi
  · have := hA0 i hi; omega
  · exact hi.2
theorem put_getD (a : Act) (d : Option Nat) (cv : Value) (t : Nat) (hd : ∀ x, d = some x → x < a.tmps.size) : (a.put d cv).tmps.getD t undef = if d = some t then cv else a.tmps.getD t undef := by
  cases d with
  | none => simp [Act.put]
  | some x =>
    have hx := hd x rfl
    simp only [Act.put, Array.getD_eq_getD_getElem?]
    by_cases h : x = t
    · subst h; rw [if_pos rfl, Array.getElem?_setIfInBounds_self_of_lt hx]; rfl
    · rw [if_neg (fun e => h (by cases e; rfl)), Array.getElem?_setIfInBounds_ne h]
theorem put_size (a : Act) (d : Option Nat) (cv : Value) : (a.put d cv).tmps.size = a.tmps.size := by cases d <;> simp [Act.put]
theorem put_defers (a : Act) (d : Option Nat) (cv : Value) : (a.put d cv).defers = a.defers := by cases d <;> rfl
theorem dstOk_spec {ops : Array Oper} (h : dstOk nt ops = true) {i : Nat} {o : Oper} (hi : ops[i]? = some o) : ∀ x, o.dst = some x → x < nt := by
  intro x hx
  have := List.all_eq_true.1 h o (by simpa using Array.mem_of_getElem? hi)
  rw [hx] at this
  simpa using this
theorem guard_wanted {ops : Array Oper} {o : Oper} {a : Act} {b : Bool} (hd : dstOk nt ops = true) (hsz : a.tmps.size = nt)
    (hslot : ∀ j want, o.guard = some (j, want) → ∀ t, (ops[j]?).bind (·.dst) = some t → ∀ c, look fr t = some (.lit c) → a.tmps.getD t undef = c) (hg : guardOf ops fr o = some b) :
    Region.wanted o (yielded ops a.tmps) = b := by
  unfold guardOf at hg
  unfold Region.wanted
  cases hgd : o.guard with
  | none => rw [hgd] at hg; cases hg; rfl
  | some jw =>
    obtain ⟨j, want⟩ := jw
    rw [hgd] at hg
    simp only at hg ⊢
    split at hg
    · rename_i c hc
      cases hg
      obtain ⟨t, ht, hl⟩ := Option.bind_eq_some_iff.1 hc
      have h1 := hslot j want hgd t ht c hl
      obtain ⟨o', ho', hd'⟩ := Option.bind_eq_some_iff.1 ht
      have hlt : t < a.tmps.size := by rw [hsz]; exact dstOk_spec hd ho' t hd'
      unfold yielded
      rw [ht]
      have h2 : a.tmps[t]? = some c := by
        rw [Array.getD_eq_getD_getElem?, Array.getElem?_eq_getElem hlt] at h1
        rw [Array.getElem?_eq_getElem hlt]
        simpa using h1
      simp only [Option.bind_some, h2]
      cases c <;> first | rfl | (rename_i c; cases c <;> cases want <;> rfl)
    · cases hg
theorem run_wpOps {ops : Array Oper} (hd : dstOk nt ops = true) {A0 : Allow} (hA0 : ∀ i, A0 i → i < kb) {w0 : World} {G0 : Nat → Prop} {ρ0 : Names} {Q' : Exit → Act → World → Prop} :
    ∀ (l : List Oper) (i : Nat), (∀ j, l[j]? = ops[i + j]?) → ∀ (k : Nat) (fr : Fr) (H : Heap) (K : List Foot → Nat → Fr → Heap → Prop), kb ≤ k → Run P Γ ops l k fr H K →
      ∀ w G ρ a, Inv Γ nt w G ρ (alw A0 kb k) a fr H → Step (below kb) w0 G0 ρ0 w G ρ →
      (∀ tr k' fr' H' G' ρ' a' w', K tr k' fr' H' → kb ≤ k' → Inv Γ nt w' G' ρ' (alw A0 kb k') a' fr' H' → Step (below kb) w0 G0 ρ0 w' G' ρ' → Q' .normal a' w') → wpOps P ops Q' (List.range' i l.length) a w := by
  intro l
  induction l with
  | nil =>
    intro i hl k fr H K hk hrun w G ρ a hi hs hK
    exact hK [] k fr H G ρ a w hrun hk hi hs
  | cons o r ih =>
    intro i hl k fr H K hk hrun w G ρ a hi hs hK
    have ho : ops[i]? = some o := by have := hl 0; simpa using this.symm
    have hdst := dstOk_spec hd ho
    have hl' : ∀ j, r[j]? = ops[i + 1 + j]? := fun j => by have := hl (j + 1); rw [List.getElem?_cons_succ] at this; rw [this]; congr 1; omega
    have hslot : ∀ j want, o.guard = some (j, want) → ∀ t, (ops[j]?).bind (·.dst) = some t → ∀ c, look fr t = some (.lit c) → a.tmps.getD t undef = c :=
      fun j want _ t _ c hc => V_bool (hi.frm t _ hc)
    have hlt := alw_lt (A0 := A0) hA0 hk
    rw [List.length_cons, List.range'_succ, wpOps_cons]
    unfold wpOp
    rw [ho]
    rcases hrun with ⟨hg, hrun⟩ | ⟨hg, out, ⟨hop, hrds, hkk⟩, hrun⟩
    · simp only [guard_wanted hd hi.size hslot hg, Bool.false_eq_true, if_false]
      refine ih (i + 1) hl' k _ H _ hk hrun w G ρ (a.put o.dst undef) ⟨hi.rel, by rw [put_size]; exact hi.size, by rw [put_defers]; exact hi.defers, fun t v hv => ?_⟩ hs (fun tr k' fr' H' G' ρ' a' w' h1 => hK _ k' fr' H' G' ρ' a' w' h1)
      rw [look_putO] at hv
      rw [put_getD a o.dst undef t (fun x hx => by rw [hi.size]; exact hdst x hx)]
      split at hv
      · rename_i he; cases hv; rw [if_pos he]; exact .lit
      · rename_i hne; rw [if_neg hne]; exact hi.frm t v hv
    · simp only [guard_wanted hd hi.size hslot hg, if_true]
      left
      have hHof : ∀ id B A', ofHeap H (alw A0 kb k) id = some (B, A') → A' = alw A0 kb k := fun id B A' hH => by
        simp only [ofHeap, Option.map_eq_some_iff] at hH
        obtain ⟨B', _, he⟩ := hH
        cases he; rfl
      refine hop w G ρ (ofHeap H (alw A0 kb k)) (alw A0 kb k) a hi.rel hlt (fun j h1 h2 => ?_) (fun id hid => ?_) (fun x _ v hv => aeval_V hi hv) _ Q' (fun w' G' ρ' cv hrel hv hst => ?_)
      · refine ⟨?_, fun id B A' hH hA => ?_⟩
        · cases hρ : ρ j with
          | none => rfl
          | some x =>
            cases hH : ofHeap H (alw A0 kb k) j with
            | none => rw [hi.rel.dom j hH] at hρ; cases hρ
            | some y =>
              obtain ⟨B, A⟩ := y
              have hA := (hi.rel.blk j B A hH).1
              rw [hHof j B A hH] at hA
              have := hlt j hA; omega
        · rw [hHof id B A' hH] at hA
          have := hlt j hA; omega
      · obtain ⟨B, hB⟩ := Option.isSome_iff_exists.1 (hrds id hid)
        exact ⟨B, alw A0 kb k, hB, by simp only [ofHeap, hB, Option.map_some], fun _ h => h⟩
      · have hst' : Step (below kb) w G ρ w' G' ρ' := ⟨hst.size, hst.keep, hst.shape, hst.g, hst.g', hst.own, fun j hj => hst.ids j (fun hc => by simp only [below] at hj; omega), hst.os, hst.tape, hst.output⟩
        rw [alw_or A0 kb k out.k hk hkk] at hrel hv
        have hup : ∀ j, alw A0 kb k j → alw A0 kb out.k j := fun j hj => by
          rcases hj with hj | hj
          · exact .inl hj
          · exact .inr ⟨hj.1, by omega⟩
        refine ih (i + 1) hl' out.k _ _ _ (by omega) hrun w' G' ρ' (a.put o.dst cv) ⟨?_, by rw [put_size]; exact hi.size, by rw [put_defers]; exact hi.defers, fun t v hv' => ?_⟩ (hs.trans hst' (fun _ h => h)) (fun tr k' fr' H' G' ρ' a' w' h1 => hK _ k' fr' H' G' ρ' a' w' h1)
        · refine hrel.allow _ (fun id hid => ?_) (fun id B A' hid => ?_)
          · simp only [ofHeap, Option.map_eq_none_iff] at hid
            rw [look_updH] at hid
            rw [updO_modOf]
            split at hid
            · rename_i x hx; rw [hid]; rfl
            · rename_i hx; simp only [ofHeap, hid, Option.map_none]
          · simp only [ofHeap, Option.map_eq_some_iff] at hid
            obtain ⟨B', hB', he⟩ := hid
            cases he
            rw [look_updH] at hB'
            rw [updO_modOf]
            split at hB'
            · rename_i x hx; rw [hB']; exact ⟨alw A0 kb out.k, rfl, fun _ h => h⟩
            · rename_i hx; exact ⟨alw A0 kb k, by simp only [ofHeap, hB', Option.map_some], hup⟩
        · rw [look_putO] at hv'
          rw [put_getD a o.dst cv t (fun x hx => by rw [hi.size]; exact hdst x hx)]
          split at hv'
          · rename_i he; cases hv'; rw [if_pos he]; exact hv
          · rename_i hne; rw [if_neg hne]
            exact (hi.frm t v hv').step hi.rel hst (fun j hj hc => by have := hlt j hj; omega) hup
theorem W_region {id : Nat} {ops : Array Oper} (hd : dstOk nt ops = true) (h : Run P Γ ops ops.toList k fr H (fun _ k' fr' H' => kb ≤ k' → Q .normal k' fr' H')) : W P Γ nt kb (.region id ops false) Q k fr H := fun A0 hA0 hk w G ρ a hi => by
  refine wp_region ?_
  have := run_wpOps (kb := kb) (Q' := Post Γ nt A0 kb w G ρ Q) hd hA0 ops.toList 0 (fun j => by rw [Array.getElem?_toList, Nat.zero_add]) k fr H _ hk h w G ρ a hi (Step.refl _ _ _ _)
    (fun tr k' fr' H' G' ρ' a' w' hK hk' hi' hs' => ⟨G', ρ', k', fr', H', hK hk', hk', hi', hs'⟩)
  rw [Array.length_toList, ← List.range_eq_range'] at this
  exact this
end
end Go.AM
end
