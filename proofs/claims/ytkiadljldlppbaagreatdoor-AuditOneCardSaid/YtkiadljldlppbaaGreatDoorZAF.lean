import Derived.Test.YtkiadljldlppbaaGreatDoorZAE
import Derived.ChangeArms
import Derived.DataReads
import Derived.Carry
import Derived.ProofKit
import Derived.LaidMore
import Derived.OpenShut
import Derived.Stop.Joined
import Derived.Lib.AppendZerosOnto
import Derived.Lib.Overlaps
import Derived.KernelRfl
set_option linter.unusedVariables false
set_option linter.unusedSimpArgs false
section
namespace Go.AM
open Go
def Dec (w : World) (G : Nat → Prop) (vs : List AVal) (cs : List Value) : Prop :=
  vs.length = cs.length ∧ ∀ (j : Nat) (v : AVal), vs[j]? = some v → ∃ c, cs[j]? = some c ∧ V w G noNames noAllow v c
section
variable {H : Type} {enc : TypeId × Value → H} {P : Program} {w : World} {base : Nat} {sp : Nat → Bool} {held : Bool} {fuel : Nat} {t : TypeId} {cs : List Value} {x : DataW H × List MemPlace} {G : Nat → Prop}
theorem Dec.one {v : AVal} {c : Value} (h : V w G noNames noAllow v c) : Dec w G [v] [c] := ⟨rfl, fun j u hj => by
  match j with
  | 0 => cases hj; exact ⟨c, rfl, h⟩
  | j + 1 => simp at hj⟩
theorem Dec.app {a b : List AVal} {c d : List Value} (h : Dec w G a c) (k : Dec w G b d) : Dec w G (a ++ b) (c ++ d) := by
  refine ⟨by rw [List.length_append, List.length_append, h.1, k.1], fun j v hj => ?_⟩
  by_cases hlt : j < a.length
  · rw [List.getElem?_append_left hlt] at hj
    obtain ⟨e, he, hv⟩ := h.2 j v hj
    exact ⟨e, by rw [List.getElem?_append_left (by rw [← h.1]; exact hlt)]; exact he, hv⟩
  · rw [List.getElem?_append_right (by omega)] at hj
    obtain ⟨e, he, hv⟩ := k.2 _ v hj
    exact ⟨e, by rw [List.getElem?_append_right (by rw [← h.1]; omega), ← h.1]; exact he, hv⟩
theorem dec_int {k : IntKind} (ht : P.underlying t = some (.int k)) (h : DataW.trod enc P w base sp held fuel t cs = some x) : ∃ n, Dec w G [.lit (.int k n)] cs ∧ (Lit.int k n).wf = true := by
  obtain ⟨n, rfl, _, hw⟩ := DataW.trod_int ht h
  exact ⟨n, .one .lit, hw⟩
theorem add_add (a : Addr) (i j : Nat) (h : a.spot = none) : (a.add i).add j = ⟨a.block, a.off + i + j, none⟩ := by
  unfold Addr.add
  cases a
  simp only at h
  subst h
  by_cases hi : i = 0 <;> by_cases hj : j = 0 <;> simp [hi, hj]
theorem dec_slice {e : TypeId} {α : Type} (F : α → List AVal) (Q : α → Prop) (a0 : α) (h0 : Q a0) {sz : Nat} (hsz : 0 < sz) (ht : P.underlying t = some (.slice e)) (he : P.cellsOf e = sz)
    (hG : ∀ b, b < w.heap.size → G b)
    (hel : ∀ (n : Nat) (cs : List Value) (y : DataW H × List MemPlace), cs.length = sz → DataW.trod enc P w base sp held n e cs = some y → ∃ a, Q a ∧ Dec w G (F a) cs)
    (h : DataW.trod enc P w base sp held fuel t cs = some x) : ∃ (n : Nat) (f : Nat → α), (∀ i, Q (f i)) ∧ Dec w G [.rd sz n (fun i => F (f i))] cs := by
  rcases DataW.trod_slice ht h with ⟨rfl, _⟩ | ⟨a, len, cap, elems, rest, n, _, rfl, _, hb, hl, hm, hlen, hels, _, _⟩
  · exact ⟨0, fun _ => a0, fun _ => h0, .one .rd0⟩
  · by_cases hz : len = 0
    · subst hz; exact ⟨0, fun _ => a0, fun _ => h0, .one .rd0⟩
    · rw [he] at hels
      have each : ∀ i, i < len → ∃ ci y, w.cells? base (a.add (i * sz)) sz = some ci ∧ DataW.trod enc P w base sp held n e ci = some y := fun i hi => by
        have h1 := hels i hi
        rw [List.getElem?_eq_getElem (by omega), Option.bind_eq_some_iff] at h1
        obtain ⟨ci, h2, h3⟩ := h1
        exact ⟨ci, _, h2, h3⟩
      have each' : ∀ i, ∃ (ci : List Value) (q : α), Q q ∧ (i < len → w.cells? base (a.add (i * sz)) sz = some ci ∧ Dec w G (F q) ci) := fun i => by
        by_cases hi : i < len
        · obtain ⟨ci, y, h1, h2⟩ := each i hi
          obtain ⟨q, h3, h4⟩ := hel n ci y (World.cells?_some h1).2.1 h2
          exact ⟨ci, q, h3, fun _ => ⟨h1, h4⟩⟩
        · exact ⟨[], a0, h0, fun h => absurd h hi⟩
      let ci := fun i => Classical.choose (each' i)
      let f := fun i => Classical.choose (Classical.choose_spec (each' i))
      have hf : ∀ i, Q (f i) ∧ (i < len → w.cells? base (a.add (i * sz)) sz = some (ci i) ∧ Dec w G (F (f i)) (ci i)) := fun i => Classical.choose_spec (Classical.choose_spec (each' i))
      have hspot : a.spot = none := by
        have h1 := (World.cells?_some ((hf 0).2 (by omega)).1)
        have h2 := h1.2.2 0 hsz
        rw [Nat.zero_mul] at h2
        have h3 : a.add 0 = a := by simp [Addr.add]
        rw [h3, h3, List.getElem?_eq_getElem (by rw [h1.2.1]; exact hsz)] at h2
        unfold World.cell? at h2
        cases hs : a.spot with
        | none => rfl
        | some s => rw [hs] at h2; split at h2 <;> simp at h2
      have hcell : ∀ i j, i < len → j < sz → w.cell? ⟨a.block, a.off + i * sz + j, none⟩ = (ci i)[j]? := fun i j hi hj => by
        have h1 := (World.cells?_some ((hf i).2 hi).1).2.2 j hj
        rwa [add_add a _ _ hspot] at h1
      have hcl : ∀ i, i < len → (ci i).length = sz := fun i hi => (World.cells?_some ((hf i).2 hi).1).2.1
      have hFl : ∀ i, i < len → (F (f i)).length = sz := fun i hi => by rw [((hf i).2 hi).2.1, hcl i hi]
      have hblk : a.block < w.heap.size := by
        have h1 := hcell 0 0 (by omega) hsz
        rw [List.getElem?_eq_getElem (by rw [hcl 0 (by omega)]; exact hsz)] at h1
        by_cases hb : a.block < w.heap.size
        · exact hb
        · unfold World.cell? at h1
          simp only at h1
          rw [Array.getElem?_eq_none (by omega)] at h1; cases h1
      refine ⟨len, f, fun i => (hf i).1, .one ?_⟩
      have ea : a = ⟨a.block, a.off, none⟩ := by cases a; simp only at hspot; rw [hspot]
      rw [ea]
      refine .rd (fun i j => (ci i).getD j undef) (hG _ hblk) hl (by omega) hFl (fun i j v hi hj => ?_) (fun i j v hi hj => ?_)
      · obtain ⟨c, h1, h2⟩ := ((hf i).2 hi).2.2 j v hj
        have hj' : j < sz := by rw [← hcl i hi]; exact (List.getElem?_eq_some_iff.1 h1).1
        rw [hcell i j hi hj', h1]
        simp [List.getD_eq_getElem?_getD, h1]
      · obtain ⟨c, h1, h2⟩ := ((hf i).2 hi).2.2 j v hj
        simp only [List.getD_eq_getElem?_getD, h1, Option.getD_some]
        exact h2
theorem V.of_dec {vs : List AVal} {cs : Array Value} {ρ : Names} {A : Allow} (h : Dec w G vs cs.toList) : V w G ρ A (.agg vs) (.agg cs) := by
  have h1 : V w G noNames noAllow (.agg vs) (.agg cs) := .agg (by rw [h.1]; simp) fun j v hj => by
    obtain ⟨c, h2, h3⟩ := h.2 j v hj
    have : cs.getD j undef = c := by
      rw [Array.getElem?_toList] at h2
      simp [Array.getD_eq_getD_getElem?, h2]
    rw [this]; exact h3
  exact h1.mono (fun _ h => h) (fun _ _ => rfl) (fun _ _ => rfl) (fun _ h => h.elim) (fun _ h => h.elim)
end
end Go.AM
end
section
namespace Go.AM
open Go Go.RowKit
theorem keptBut_below {w w' : World} (h : Below w.heap.size w w') (may : MemPlace → Prop) : w.keptBut w' may := by
  refine ⟨h.os, h.output, fun i hi => ?_⟩
  rw [h.block i hi]
  cases w.heap[i]? with
  | none => rfl
  | some o => cases o <;> simp
theorem row_hrel (W : World) (A : Allow) : HRel [] W (fun b => b < W.heap.size) noNames (ofHeap [] A) :=
  ⟨fun _ _ => rfl, fun id B A' hid => (by simp [ofHeap, look] at hid), fun i j b s t h => (by cases h), fun b hb => hb, fun g cells hg => by simp [look] at hg⟩
theorem row_call {P : Program} {f : FuncId} {vs : List AVal} {b : Bool} {args : Array Value} {W : World} (h : Pure P [] f vs (.lit (.bool b))) (hv : Vs W (fun b => b < W.heap.size) noNames noAllow vs args) :
    Calls P f args W fun e W' => e = .returned (.bool b) ∧ Below W.heap.size W W' := by
  refine (h 0 noAllow (fun _ h => h.elim) W _ noNames args (row_hrel W _) hv).mono ?_
  rintro e W' ⟨cv, G', ρ', k', r, H', rfl, ⟨rfl, rfl, rfl⟩, _, _, hvr, hst⟩
  have e1 : cv = .bool b := by cases hvr; rfl
  subst e1
  exact ⟨rfl, hst.os, hst.tape, hst.output, hst.size, fun k hk => hst.keep k hk (fun ⟨_, _, h⟩ => by cases h)⟩
end Go.AM
end
section
namespace Go.AM
open Go
def deS : AVal → AVal
  | .slc id r m _ => .sl id r m
  | v => v
theorem deS_V {w : World} {G : Nat → Prop} {ρ : Names} {A : Allow} {v : AVal} {cv : Value} (h : V w G ρ A v cv) : V w G ρ A (deS v) cv := by
  cases h with
  | dangc h1 h2 => exact .dangs h1 h2
  | slc h1 h2 h3 h4 h5 h6 h7 => exact .sl h1 h2 h3 h4 h5 h6 h7
  | junk => exact .junk
  | lit => exact .lit
  | dang h1 h2 => exact .dang h1 h2
  | dangs h1 h2 => exact .dangs h1 h2
  | ptr h1 h2 => exact .ptr h1 h2
  | sl h1 h2 h3 h4 h5 h6 h7 => exact .sl h1 h2 h3 h4 h5 h6 h7
  | sl0 h1 h2 => exact .sl0 h1 h2
  | rp g h1 h2 h3 => exact .rp g h1 h2 h3
  | rd0 => exact .rd0
  | rd g h1 h2 h3 h4 h5 h6 => exact .rd g h1 h2 h3 h4 h5 h6
  | agg h1 h2 => exact .agg h1 h2
  | tup h1 h2 => exact .tup h1 h2
  | fn h1 h2 => exact .fn h1 h2
  | nn => exact .nn
  | bfn h => exact .bfn h
theorem VLe.slc (id r n c : Nat) : VLe (.slc id r n c) (.sl id r n) := fun _ _ _ _ _ h => deS_V h
section
variable {P : Program} {Γ : List (Nat × List AVal)} {nt kb : Nat} {Q : AQ} {k : Nat} {fr : Fr} {H : Heap} {c : Code}
theorem W_cap (t : Nat) {id r n : Nat} {B : Blk} (hf : look fr t = some (.sl id r n)) (hB : look H id = some B) (h0 : n = 0 → W P Γ nt kb c Q k ((t, .lit (.slice none 0 0)) :: del fr t) H) (h : ∀ cap, n ≤ cap → cap ≤ 9223372036854775807 → W P Γ nt kb c Q k ((t, .slc id r n cap) :: del fr t) H) :
    W P Γ nt kb c Q k fr H := fun A0 hA0 hk w G ρ a hi => by
  have hv := hi.frm t _ hf
  obtain ⟨_, b, hb, _⟩ := hi.rel.blk id B (alw A0 kb k) (by simp [ofHeap, hB])
  generalize hev : a.tmps.getD t undef = cv at hv
  cases hv with
  | dangs _ hn => rw [hb] at hn; cases hn
  | sl0 h1 h2 =>
    refine h0 rfl A0 hA0 hk w G ρ a ⟨hi.rel, hi.size, hi.defers, fun t' v hv' => ?_⟩
    simp only [look] at hv'
    split at hv'
    · rename_i he; subst he; cases hv'; rw [hev]; exact .lit
    · rw [look_del] at hv'
      split at hv'
      · cases hv'
      · exact hi.frm t' v hv'
  | sl h1 h2 h3 h4 h5 h6 h7 =>
    refine h _ h5 h6 A0 hA0 hk w G ρ a ⟨hi.rel, hi.size, hi.defers, fun t' v hv' => ?_⟩
    simp only [look] at hv'
    split at hv'
    · rename_i he; subst he; cases hv'; rw [hev]; exact .slc h1 h2 h3 h4 h5 h6 h7
    · rw [look_del] at hv'
      split at hv'
      · cases hv'
      · exact hi.frm t' v hv'
end
def setRows (rows new : List (List AVal)) (r : Nat) : List (List AVal) := rows.take r ++ new ++ rows.drop (r + new.length)
theorem setRows_get {rows new : List (List AVal)} {r : Nat} (hr : r ≤ rows.length) {q : Nat} {row : List AVal} (h : (setRows rows new r)[q]? = some row) :
    (q < r ∧ rows[q]? = some row) ∨ (r ≤ q ∧ q < r + new.length ∧ new[q - r]? = some row) ∨ (r + new.length ≤ q ∧ rows[q]? = some row) := by
  unfold setRows at h
  rw [List.append_assoc, List.getElem?_append] at h
  have hl : (rows.take r).length = r := by simp; omega
  rw [hl] at h
  split at h
  · rename_i hlt; rw [List.getElem?_take, if_pos hlt] at h; exact .inl ⟨hlt, h⟩
  · rename_i hge
    rw [List.getElem?_append] at h
    split at h
    · rename_i h2; exact .inr (.inl ⟨by omega, by omega, h⟩)
    · rename_i h2
      rw [List.getElem?_drop] at h
      have e : r + new.length + (q - r - new.length) = q := by omega
      rw [e] at h
      exact .inr (.inr ⟨by omega, h⟩)
section
variable {P : Program} {Γ : List (Nat × List AVal)} {o : Oper} {ev : Operand → Option AVal} {get : Nat → Option Blk} {k : Nat}
theorem write_rel {w : World} {G : Nat → Prop} {ρ : Names} {H : Owner} {A A' : Allow} (hr : HRel Γ w G ρ H) {id b : Nat} {B : Blk} {C : Array Value} {ty : TypeId} (hAid : A id) (hAA : ∀ i, A' i → A i) (hb : ρ id = some (b, B.sz)) (hC : w.heap[b]? = some (.cells C ty (0, 0)))
    (hrows : ∀ r row c v, B.rows[r]? = some row → row[c]? = some v → ∃ cv, C[r * B.sz + c]? = some cv ∧ V w G (if B.pure then noNames else ρ) (if B.pure then noAllow else A') v cv) (hlen : ∀ (r : Nat) row, B.rows[r]? = some row → row.length = B.sz)
    (r m : Nat) (src : List (List AVal)) (ps : Bool) (gv : Nat → Nat → Value) (hsl : src.length = m) (hsrl : ∀ (q : Nat) row, src[q]? = some row → row.length = B.sz)
    (hgv : ∀ q row c v, src[q]? = some row → row[c]? = some v → V w G (if ps then noNames else ρ) (if ps then noAllow else A) v (gv q c)) (hr0 : r ≤ B.rows.length) (hfit : (r + m) * B.sz ≤ C.size) :
    HRel Γ (w.setRow b (C.toList.take (r * B.sz) ++ news B.sz m gv ++ C.toList.drop (r * B.sz + (news B.sz m gv).length)).toArray) G ρ (updO H (fun i => A i ∨ (k ≤ i ∧ i < k)) [(id, some ⟨B.sz, B.pure && ps, setRows B.rows src r⟩)]) ∧
      Step (fun i => ¬ (k ≤ i ∧ i < k)) w G ρ (w.setRow b (C.toList.take (r * B.sz) ++ news B.sz m gv ++ C.toList.drop (r * B.sz + (news B.sz m gv).length)).toArray) G ρ := by
  have hnl := news_len B.sz m gv
  have hfit' : r * B.sz + m * B.sz ≤ C.size := by rw [← Nat.add_mul]; exact hfit
  have hseg := seg_get (l := C.toList) (vs := news B.sz m gv) (o := r * B.sz) (by rw [hnl]; simpa using hfit')
  have hl2 : (C.toList.take (r * B.sz) ++ news B.sz m gv ++ C.toList.drop (r * B.sz + (news B.sz m gv).length)).toArray.size = C.size := by
    simp only [List.size_toArray, List.length_append, List.length_take, List.length_drop, Array.length_toList]; omega
  have hold : ∀ (v : AVal) (cv : Value), V w G (if B.pure then noNames else ρ) (if B.pure then noAllow else A') v cv → V w G (if (B.pure && ps) then noNames else ρ) (if (B.pure && ps) then noAllow else A) v cv := fun v cv h => by
    cases hp : B.pure with
    | true =>
      rw [hp] at h
      simp only [if_true] at h
      cases ps with
      | true => simpa using h
      | false => simp only [Bool.and_false, Bool.false_eq_true, if_false]; exact h.weaken
    | false =>
      rw [hp] at h
      simp only [Bool.false_and, Bool.false_eq_true, if_false] at h ⊢
      exact h.mono (fun _ h => h) (fun _ _ => rfl) (fun _ _ => rfl) hAA (fun _ _ => .inr rfl)
  have hnew : ∀ (v : AVal) (cv : Value), V w G (if ps then noNames else ρ) (if ps then noAllow else A) v cv → V w G (if (B.pure && ps) then noNames else ρ) (if (B.pure && ps) then noAllow else A) v cv := fun v cv h => by
    cases ps with
    | true =>
      simp only [if_true] at h
      cases B.pure with
      | true => simpa using h
      | false => simp only [Bool.false_and, Bool.false_eq_true, if_false]; exact h.weaken
    | false => simpa using h
  have hrw := HRel.rewrite hr hb id (.inl rfl) ⟨B.sz, B.pure && ps, setRows B.rows src r⟩ rfl
    (C.toList.take (r * B.sz) ++ news B.sz m gv ++ C.toList.drop (r * B.sz + (news B.sz m gv).length)).toArray ty A (fun i => A i ∨ (k ≤ i ∧ i < k)) (.inl rfl) (fun _ h => .inl h) (.inl hAid)
    (w.setRow b (C.toList.take (r * B.sz) ++ news B.sz m gv ++ C.toList.drop (r * B.sz + (news B.sz m gv).length)).toArray)
    (setRow_heap w b C _ ty _ hC) (fun j hj => setRow_other w b j _ hj) (size_setRow _ _ _)
    (by
      unfold World.shape?
      rw [setRow_heap w b C _ ty _ hC, hC]
      simp only [hl2])
    rfl rfl rfl (fun q row h => by
      rcases setRows_get hr0 h with ⟨_, h⟩ | ⟨_, _, h⟩ | ⟨_, h⟩
      · exact hlen q row h
      · exact hsrl _ row h
      · exact hlen q row h)
    (fun q row c v h1 h2 => by
      show ∃ cv, (C.toList.take (r * B.sz) ++ news B.sz m gv ++ C.toList.drop (r * B.sz + (news B.sz m gv).length)).toArray[q * B.sz + c]? = some cv ∧ V w G (if (B.pure && ps) then noNames else ρ) (if (B.pure && ps) then noAllow else A) v cv
      rw [List.getElem?_toArray, hseg]
      rcases setRows_get hr0 h1 with ⟨hq, h⟩ | ⟨hq, hq', h⟩ | ⟨hq, h⟩
      · obtain ⟨cu, h3, h4⟩ := hrows q row c v h h2
        have hc : c < B.sz := by have := (List.getElem?_eq_some_iff.1 h2).1; have := hlen q row h; omega
        have h6 : q * B.sz + c < r * B.sz := by
          have : (q + 1) * B.sz ≤ r * B.sz := Nat.mul_le_mul_right _ hq
          rw [Nat.add_mul] at this; omega
        rw [if_pos h6]
        exact ⟨cu, by rw [Array.getElem?_toList]; exact h3, hold v cu h4⟩
      · have hc : c < B.sz := by have := (List.getElem?_eq_some_iff.1 h2).1; have := hsrl _ row h; omega
        have h9 := news_get (gv := gv) (by omega : q - r < m) hc
        have h10 := (List.getElem?_eq_some_iff.1 h9).1
        have e1 : q * B.sz + c = r * B.sz + ((q - r) * B.sz + c) := by
          have : q * B.sz = r * B.sz + (q - r) * B.sz := by rw [← Nat.add_mul]; congr 1; omega
          omega
        rw [e1, if_neg (by omega), if_pos (by omega)]
        have e2 : r * B.sz + ((q - r) * B.sz + c) - r * B.sz = (q - r) * B.sz + c := by omega
        rw [e2]
        exact ⟨_, h9, hnew v _ (hgv _ row c v h h2)⟩
      · obtain ⟨cu, h3, h4⟩ := hrows q row c v h h2
        have h6 : r * B.sz + (news B.sz m gv).length ≤ q * B.sz + c := by
          have : (r + m) * B.sz ≤ q * B.sz := Nat.mul_le_mul_right _ (by omega)
          rw [Nat.add_mul] at this; omega
        rw [if_neg (by omega), if_neg (by omega)]
        exact ⟨cu, by rw [Array.getElem?_toList]; exact h3, hold v cu h4⟩)
  obtain ⟨hrel, hst⟩ := hrw
  have hnm : setN (setN ρ id none) id (some (b, B.sz)) = ρ := funext fun i => by
    simp only [setN]; split
    · rename_i he; rw [he, hb]
    · rfl
  rw [hnm] at hrel hst
  have hup : updO H (fun i => A i ∨ (k ≤ i ∧ i < k)) [(id, some ⟨B.sz, B.pure && ps, setRows B.rows src r⟩), (id, none)] = updO H (fun i => A i ∨ (k ≤ i ∧ i < k)) [(id, some ⟨B.sz, B.pure && ps, setRows B.rows src r⟩)] := funext fun i => by
    simp only [updO]; split <;> rfl
  rw [hup] at hrel
  exact ⟨hrel, ⟨hst.size, hst.keep, hst.shape, hst.g, hst.g', hst.own, fun i _ => hst.ids i (.inr rfl), hst.os, hst.tape, hst.output⟩⟩
end
end Go.AM
end
section
namespace Go.AM
open Go
section
variable {P : Program} {Γ : List (Nat × List AVal)} {o : Oper} {ev : Operand → Option AVal} {get : Nat → Option Blk} {k : Nat}
theorem slc_spec {w : World} {G : Nat → Prop} {ρ : Names} {H : Owner} {A A' : Allow} (hr : HRel Γ w G ρ H) {id r n c : Nat} {B : Blk} (hH : H id = some (B, A')) {cv : Value} (hv : V w G ρ A (.slc id r n c) cv) :
    ∃ b off C ty, cv = .slice (some ⟨b, off, none⟩) n c ∧ A id ∧ ρ id = some (b, B.sz) ∧ w.heap[b]? = some (.cells C ty (0, 0)) ∧ (r + c) * B.sz ≤ C.size ∧ n ≤ c ∧ c ≤ maxLen ∧ (c = 0 ∨ off = r * B.sz) ∧
      (∀ r row c v, B.rows[r]? = some row → row[c]? = some v → ∃ cv, C[r * B.sz + c]? = some cv ∧ V w G (if B.pure then noNames else ρ) (if B.pure then noAllow else A') v cv) ∧ (∀ (r : Nat) row, B.rows[r]? = some row → row.length = B.sz) := by
  obtain ⟨_, b, hb, _, ⟨⟨C, ty, hC, hrows⟩, hlen⟩⟩ := hr.blk id B A' hH
  cases hv with
  | dangc _ hn => rw [hb] at hn; cases hn
  | slc h1 h2 h3 h4 h5 h6 h7 =>
    rw [hb] at h2; cases h2
    have e := h3
    unfold World.shape? at e
    rw [hC] at e
    simp at e
    obtain ⟨rfl, rfl⟩ := e
    exact ⟨_, _, C, _, rfl, h1, hb, hC, h4, h5, h6, h7, hrows, hlen⟩
theorem cap_good {x : Operand} {t id r n c : Nat} {B : Blk} (ho : o.op = .call { callee := .builtin .cap, args := #[x], argTypes := #[t] }) (ht : isSliceT P t = true) (hx : ev x = some (.slc id r n c)) (hB : get id = some B) :
    Good P Γ o ev get k ⟨.lit (.int .i64 c), k, [], [id]⟩ := by
  refine ⟨OpOk_quiet fun w G ρ H A a hr hrd hop => ?_, fun id' hid => by simp at hid; rw [hid, hB]; rfl, Nat.le_refl _⟩
  have hvx := hop x (by simp [ho, Op.operands, Call.operands]) _ hx
  obtain ⟨B', A', h3, hH, _⟩ := hrd id (by simp)
  rw [hB] at h3; cases h3
  obtain ⟨b, off, C, ty, hev, _⟩ := slc_spec hr hH hvx
  unfold isSliceT at ht
  split at ht
  · rename_i e hu
    refine ⟨.int .i64 c, ?_, .lit⟩
    simp [execOp, ho, resolve, invoke, builtin, Builtin.cap_, hev, underlying, hu, goInt]
  · cases ht
theorem run_slice_cap {t s : Nat} (ht : esz P t = some s) (lo hi : Option Value) (base : Option Addr) (len cap : Nat) (l h : Int) (hl : lo = none ∧ l = 0 ∨ ∃ kk, lo = some (.int kk l)) (hh : hi = none ∧ h = len ∨ ∃ kk, hi = some (.int kk h))
    (h0 : 0 ≤ l) (h1 : l ≤ h) (h2 : h ≤ cap) (w : World) :
    (Instr.sliceAt t (.slice base len cap) lo hi none).run P w = .ok (.slice (if cap = l.toNat then base else base.map (·.add (l.toNat * s))) (h.toNat - l.toNat) (cap - l.toNat)) w := by
  obtain ⟨e, i, hu, hi', rfl⟩ := esz_spec ht
  have hb : (Instr.sliceBounds true len cap lo hi none).run P w = .ok (l.toNat, h.toNat, cap) w := by
    have q1 : (0 : Int) ≤ h ∧ h ≤ (cap : Int) := ⟨by omega, by omega⟩
    have q3 : (0 : Int) ≤ l ∧ l ≤ (h.toNat : Int) := ⟨h0, by omega⟩
    rcases hl with ⟨rfl, rfl⟩ | ⟨kl, rfl⟩ <;> rcases hh with ⟨rfl, rfl⟩ | ⟨kh, rfl⟩
    · simp [Instr.sliceBounds]
    · simp [Instr.sliceBounds, Instr.sliceBound, asIntOf, q1]
    · have q2 : (0 : Int) ≤ l ∧ l ≤ (len : Int) := ⟨h0, h1⟩
      simp [Instr.sliceBounds, Instr.sliceBound, asIntOf, q2]
    · simp only [Instr.sliceBounds, Instr.sliceBound, asIntOf, Sem.run_bind, Sem.run_pure, Result.andThen_ok, q1, and_self, if_true, q3]
  simp only [Instr.sliceAt, underlying, Sem.run_bind, run_program, Result.andThen_ok, hu, Sem.run_pure, Instr.slice, hb, sizeOf, typeInfo, hi']
theorem slc_run {t id r n c : Nat} {x : Operand} {lo hi : Option Operand} {B : Blk} {l h : Int} (ho : o.op = .slice t x lo hi none) (ht : esz P t = some B.sz) (hx : ev x = some (.slc id r n c))
    (hl : bound ev lo 0 = some l) (hh : bound ev hi n = some h) (h0 : 0 ≤ l) (h1 : l ≤ h) (h2 : h ≤ c) {w : World} {G : Nat → Prop} {ρ : Names} {H : Owner} {A A' : Allow} {a : Act} (hr : HRel Γ w G ρ H) (hH : H id = some (B, A'))
    (hop : ∀ x, x ∈ o.op.operands → ∀ v, ev x = some v → V w G ρ A v (a.eval x)) :
    ∃ cv, (execOp a.eval o).run P w = .ok (.value cv) w ∧ V w G ρ A (.slc id (r + l.toNat) (h.toNat - l.toNat) (c - l.toNat)) cv := by
  have hvx := hop x (by simp [ho, Op.operands]) _ hx
  have el := bound_spec (w := w) (G := G) (ρ := ρ) (A := A) (a := a) hl (fun y hy v hv => hop y (by simp [ho, Op.operands, hy]) v hv)
  have eh := bound_spec (w := w) (G := G) (ρ := ρ) (A := A) (a := a) hh (fun y hy v hv => hop y (by simp [ho, Op.operands, hy]) v hv)
  obtain ⟨b, off, C, ty, hev, hA, hb, hC, hm, hn, hmx, hoff, _⟩ := slc_spec hr hH hvx
  have hrun := run_slice_cap ht (lo.map a.eval) (hi.map a.eval) (some ⟨b, off, none⟩) n c l h el eh h0 h1 h2 w
  have hsh : w.shape? b = some (ty, C.size) := by unfold World.shape?; rw [hC]
  have hm' : (r + l.toNat + (c - l.toNat)) * B.sz ≤ C.size := by
    have : r + l.toNat + (c - l.toNat) = r + c := by omega
    rw [this]; exact hm
  refine ⟨_, by simp only [execOp, ho, hev, Option.map_none, Sem.run_bind, hrun, Result.andThen_ok, Sem.run_pure]; rfl, ?_⟩
  by_cases hcl : c = l.toNat
  · rw [if_pos hcl]
    exact .slc hA hb hsh hm' (by omega) (by omega) (.inl (by omega))
  · rw [if_neg hcl, Option.map_some, Addr.add_mid]
    refine .slc hA hb hsh hm' (by omega) (by omega) (.inr ?_)
    rcases hoff with h4 | h4
    · omega
    · rw [h4, Nat.add_mul]
theorem slc_good {t id r n c : Nat} {x : Operand} {lo hi : Option Operand} {B : Blk} {l h : Int} (ho : o.op = .slice t x lo hi none) (hB : get id = some B) (ht : esz P t = some B.sz) (hx : ev x = some (.slc id r n c))
    (hl : bound ev lo 0 = some l) (hh : bound ev hi n = some h) (h0 : 0 ≤ l) (h1 : l ≤ h) (h2 : h ≤ c) : Good P Γ o ev get k ⟨.slc id (r + l.toNat) (h.toNat - l.toNat) (c - l.toNat), k, [], [id]⟩ := by
  refine ⟨OpOk_quiet fun w G ρ H A a hr hrd hop => ?_, fun id' hid => by simp at hid; rw [hid, hB]; rfl, Nat.le_refl _⟩
  obtain ⟨B', A', h3, hH, _⟩ := hrd id (by simp)
  rw [hB] at h3; cases h3
  exact slc_run ho ht hx hl hh h0 h1 h2 hr hH hop
theorem slc_grow {t id r n c e : Nat} {x : Operand} {lo hi : Option Operand} {B : Blk} {l h : Int} (ho : o.op = .slice t x lo hi none) (hB : get id = some B) (ht : esz P t = some B.sz) (hx : ev x = some (.slc id r n c))
    (hl : bound ev lo 0 = some l) (hh : bound ev hi n = some h) (h0 : 0 ≤ l) (h1 : l ≤ h) (h2 : h ≤ c) (he : B.rows.length + e ≤ r + c) :
    Good P Γ o ev get k ⟨.slc id (r + l.toNat) (h.toNat - l.toNat) (c - l.toNat), k, [(id, some ⟨B.sz, B.pure, B.rows ++ List.replicate e (List.replicate B.sz .junk)⟩)], [id]⟩ := by
  refine ⟨?_, fun id' hid => by simp at hid; rw [hid, hB]; rfl, Nat.le_refl _⟩
  intro w G ρ H A a hr hA hf hrd hop next Q hn
  obtain ⟨B', A', h3, hH, hAA⟩ := hrd id (by simp)
  rw [hB] at h3; cases h3
  obtain ⟨cv, hrun, hV⟩ := slc_run ho ht hx hl hh h0 h1 h2 hr hH hop
  have hvx := hop x (by simp [ho, Op.operands]) _ hx
  obtain ⟨b, off, C, ty, _, hAid, hb, hC, hm, _, _, _, hrows, hlen⟩ := slc_spec hr hH hvx
  unfold Oper.wp
  rw [hrun]
  have hw : ∀ (q : Nat) row, (B.rows ++ List.replicate e (List.replicate B.sz AVal.junk))[q]? = some row → B.rows[q]? = some row ∨ (q < r + c ∧ row = List.replicate B.sz AVal.junk) := fun q row h => by
    rw [List.getElem?_append] at h
    split at h
    · exact .inl h
    · right
      obtain ⟨h4, h5⟩ := List.getElem?_eq_some_iff.1 h
      rw [List.length_replicate] at h4
      rw [List.getElem_replicate] at h5
      exact ⟨by omega, h5.symm⟩
  have hrw := HRel.rewrite hr hb id (.inl rfl) ⟨B.sz, B.pure, B.rows ++ List.replicate e (List.replicate B.sz .junk)⟩ rfl C ty A (fun i => A i ∨ (k ≤ i ∧ i < k)) (.inl rfl) (fun _ h => .inl h) (.inl hAid) w hC (fun _ _ => rfl) rfl rfl rfl rfl rfl
    (fun q row h => by
      rcases hw q row h with h | ⟨_, rfl⟩
      · exact hlen q row h
      · simp)
    (fun q row c v h4 h5 => by
      rcases hw q row h4 with h | ⟨hq, rfl⟩
      · obtain ⟨cu, h6, h7⟩ := hrows q row c v h h5
        refine ⟨cu, h6, ?_⟩
        cases hp : B.pure with
        | true => rw [hp] at h7; simpa using h7
        | false =>
          rw [hp] at h7
          simp only [Bool.false_eq_true, if_false] at h7 ⊢
          exact h7.mono (fun _ h => h) (fun _ _ => rfl) (fun _ _ => rfl) hAA (fun _ _ => .inr rfl)
      · have hc : c < B.sz := by simpa using (List.getElem?_eq_some_iff.1 h5).1
        have hv : v = .junk := by have := (List.getElem?_eq_some_iff.1 h5).2; rw [List.getElem_replicate] at this; exact this.symm
        have hlt : q * B.sz + c < C.size := by
          have : (q + 1) * B.sz ≤ (r + _) * B.sz := Nat.mul_le_mul_right _ hq
          rw [Nat.add_mul] at this; omega
        subst hv
        exact ⟨C[q * B.sz + c], Array.getElem?_eq_getElem hlt, .junk⟩)
  obtain ⟨hrel, hst⟩ := hrw
  have hnm : setN (setN ρ id none) id (some (b, B.sz)) = ρ := funext fun i => by
    simp only [setN]; split
    · rename_i he; rw [he, hb]
    · rfl
  rw [hnm] at hrel hst
  have hup : updO H (fun i => A i ∨ (k ≤ i ∧ i < k)) [(id, some ⟨B.sz, B.pure, B.rows ++ List.replicate e (List.replicate B.sz .junk)⟩), (id, none)] = updO H (fun i => A i ∨ (k ≤ i ∧ i < k)) [(id, some ⟨B.sz, B.pure, B.rows ++ List.replicate e (List.replicate B.sz .junk)⟩)] := funext fun i => by
    simp only [updO]; split <;> rfl
  rw [hup] at hrel
  exact hn w G ρ cv hrel (hV.mono (fun _ h => h) (fun _ _ => rfl) (fun _ _ => rfl) (fun _ h => .inl h) (fun _ _ => .inr rfl)) ⟨hst.size, hst.keep, hst.shape, hst.g, hst.g', hst.own, fun i _ => hst.ids i (.inr rfl), hst.os, hst.tape, hst.output⟩
theorem slice3_good {t id r n m : Nat} {x : Operand} {lo hi mx : Option Operand} {B : Blk} {l h q : Int} (ho : o.op = .slice t x lo hi mx) (hB : get id = some B) (ht : esz P t = some B.sz) (hx : ev x = some (.slc id r n m))
    (hl : ∃ y kk, lo = some y ∧ ev y = some (.lit (.int kk l))) (hh : ∃ y kk, hi = some y ∧ ev y = some (.lit (.int kk h))) (hq : ∃ y kk, mx = some y ∧ ev y = some (.lit (.int kk q)))
    (h0 : 0 ≤ l) (h1 : l ≤ h) (h2 : h ≤ q) (h3 : q ≤ m) : Good P Γ o ev get k ⟨.junk, k, [], [id]⟩ := by
  refine ⟨OpOk_quiet fun w G ρ H A a hr hrd hop => ?_, fun id' hid => by simp at hid; rw [hid, hB]; rfl, Nat.le_refl _⟩
  obtain ⟨B', A', h4, hH, _⟩ := hrd id (by simp)
  rw [hB] at h4; cases h4
  have hvx := hop x (by simp [ho, Op.operands]) _ hx
  obtain ⟨b, off, C, ty, hev, _⟩ := slc_spec hr hH hvx
  obtain ⟨y1, k1, rfl, e1⟩ := hl
  obtain ⟨y2, k2, rfl, e2⟩ := hh
  obtain ⟨y3, k3, rfl, e3⟩ := hq
  have v1 := V_bool (hop y1 (by simp [ho, Op.operands]) _ e1)
  have v2 := V_bool (hop y2 (by simp [ho, Op.operands]) _ e2)
  have v3 := V_bool (hop y3 (by simp [ho, Op.operands]) _ e3)
  obtain ⟨e, i, hu, hi', hsz⟩ := esz_spec ht
  have q1 : (0 : Int) ≤ q ∧ q ≤ (m : Int) := ⟨by omega, by omega⟩
  have q2 : (0 : Int) ≤ h ∧ h ≤ (q.toNat : Int) := ⟨by omega, by omega⟩
  have q3 : (0 : Int) ≤ l ∧ l ≤ (h.toNat : Int) := ⟨by omega, by omega⟩
  have hb : (Instr.sliceBounds true n m (some (.int k1 l)) (some (.int k2 h)) (some (.int k3 q))).run P w = .ok (l.toNat, h.toNat, q.toNat) w := by
    simp only [Instr.sliceBounds, Instr.sliceBound, asIntOf, Sem.run_bind, Sem.run_pure, Result.andThen_ok, q1, q2, q3, and_self, if_true]
  obtain ⟨cv, hcv⟩ : ∃ cv, (execOp a.eval o).run P w = .ok (.value cv) w := ⟨_, by
    simp only [execOp, ho, hev, v1, v2, v3, Option.map_some, Instr.sliceAt, underlying, Sem.run_bind, run_program, Result.andThen_ok, hu, Sem.run_pure, Instr.slice, hb, sizeOf, typeInfo, hi']
    rfl⟩
  exact ⟨cv, hcv, .junk⟩
end
end Go.AM
end
section
namespace Go.AM
open Go
section
variable {P : Program} {Γ : List (Nat × List AVal)} {o : Oper} {ev : Operand → Option AVal} {get : Nat → Option Blk} {k : Nat}
theorem run_copy_rows (w : World) (dT sT ty elem : TypeId) (g o dLen dCap : Nat) (a : Addr) (sLen sCap : Nat) (cur : Array Value) (t : TypeId) (cs : List Value) (i : TypeInfo) (n : Nat)
    (hu : P.underlying dT = some (.slice elem)) (hi : P.info? elem = some i) (hg : w.heap[g]? = some (.cells cur t (0, 0))) (hn : n = Nat.min sLen dLen) (hl : cs.length = n * i.size)
    (hsrc : ∀ j v, cs[j]? = some v → w.cell? (a.add j) = some v) (hfit : o + cs.length ≤ cur.size) (h1 : ∀ v ∈ cs, v.oneCell' = true) :
    (Builtin.copy_ #[dT, sT] ty #[.slice (some ⟨g, o, none⟩) dLen dCap, .slice (some a) sLen sCap]).run P w =
      .ok (goInt n) (w.setRow g (cur.toList.take o ++ cs ++ cur.toList.drop (o + cs.length)).toArray) := by
  have hld := run_firstCells_some (P := P) w i.size n a sLen sCap cs hl hsrc
  have hst := run_storeCells_at P g o t cs 0 cur w hg (by simpa using hfit) h1
  simp only [Nat.add_zero] at hst
  simp [Builtin.copy_, run_underlying hu, Builtin.lenOf, sizeOf, typeInfo, hi, ← hn, hld, hst]
theorem src_cells {w : World} {G : Nat → Prop} {ρ : Names} {A : Allow} {s m : Nat} {rows : List (List AVal)} {p : Bool} (hs : 0 < s) {cnt : Nat} (hcnt : cnt ≤ m) {b off : Nat} {gv : Nat → Nat → Value} (hl : rows.length = m) (hrl : ∀ (r : Nat) row, rows[r]? = some row → row.length = s)
    (hgv : ∀ r row c v, rows[r]? = some row → row[c]? = some v → w.cell? ⟨b, off + r * s + c, none⟩ = some (gv r c) ∧ V w G (if p then noNames else ρ) (if p then noAllow else A) v (gv r c)) (hone : rowsOne rows) :
    (∀ j u, (news s cnt gv)[j]? = some u → w.cell? ((⟨b, off, none⟩ : Addr).add j) = some u) ∧ (∀ u ∈ news s cnt gv, u.oneCell' = true) := by
  refine ⟨fun j u hj => ?_, fun u hu => ?_⟩
  · obtain ⟨h1, h2, rfl⟩ := news_inv hj hs
    obtain ⟨row, v, h3, h4⟩ := row_get hrl (by omega : j / s < rows.length) h2
    have h5 := (hgv _ row _ v h3 h4).1
    rw [Addr.add_mid, ← h5]
    have : off + j = off + j / s * s + j % s := by have := Nat.div_add_mod j s; rw [Nat.mul_comm] at this; omega
    rw [this]
  · obtain ⟨j, hj⟩ := List.getElem?_of_mem hu
    obtain ⟨h1, h2, rfl⟩ := news_inv hj hs
    obtain ⟨row, v, h3, h4⟩ := row_get hrl (by omega : j / s < rows.length) h2
    exact one_V (hgv _ row _ v h3 h4).2 (hone _ row _ v h3 h4)
theorem take_get {α : Type} {l : List α} {n q : Nat} {x : α} (h : (l.take n)[q]? = some x) : q < n ∧ l[q]? = some x := by
  rw [List.getElem?_take] at h
  split at h
  · exact ⟨‹_›, h⟩
  · cases h
theorem SrcA.some {v : AVal} {s m : Nat} {rows : List (List AVal)} {p : Bool} {ids : List Nat} (h : SrcA get v s m rows p ids) : ∀ i, i ∈ ids → (get i).isSome = true := fun i hi => by
  cases h with
  | rd => simp at hi
  | nil => simp at hi
  | sl h1 _ => rw [List.mem_singleton] at hi; rw [hi, h1]; rfl
theorem rds_cons {id : Nat} {B : Blk} {ids : List Nat} (hB : get id = some B) (h : ∀ i, i ∈ ids → (get i).isSome = true) : ∀ i, i ∈ id :: ids → (get i).isSome = true := fun i hi => by
  rcases List.mem_cons.1 hi with e | e
  · rw [e, hB]; rfl
  · exact h i e
theorem appin_good {x y : Operand} {t id n c m s by' : Nat} {zrow : List AVal} {B : Blk} {v : AVal} {rows : List (List AVal)} {p : Bool} {ids : List Nat}
    (ho : o.op = .call { callee := .builtin .append, args := #[x, y], argTypes := #[t, t] }) (hz : ezero P t = some (s, by', zrow)) (hx : ev x = some (.slc id 0 n c)) (hB : get id = some B) (hBs : B.sz = s) (hy : ev y = some v) (hs : SrcA get (deS v) s m rows p ids)
    (hone : (rows.all fun row => row.all one) = true) (hm : 0 < m) (hroom : n + m ≤ c) (hr : n ≤ B.rows.length) :
    Good P Γ o ev get k ⟨.slc id 0 (n + m) c, k, [(id, some ⟨B.sz, B.pure && p, setRows B.rows rows n⟩)], id :: ids⟩ := by
  refine ⟨?_, rds_cons hB hs.some, Nat.le_refl _⟩
  · intro w G ρ H A a hrl hA hf hrd hop next Q hn
    unfold ezero at hz
    split at hz
    case h_2 => cases hz
    rename_i e hu
    split at hz
    case h_2 => cases hz
    rename_i i hi
    split at hz
    case h_2 => cases hz
    rename_i z hzz
    split at hz
    case isFalse => cases hz
    rename_i hsz
    cases hz
    obtain ⟨B', A', h3, hH, hAA⟩ := hrd id (by simp)
    rw [hB] at h3; cases h3
    have hvx := hop x (by simp [ho, Op.operands, Call.operands]) _ hx
    have hvy := deS_V (hop y (by simp [ho, Op.operands, Call.operands]) _ hy)
    obtain ⟨hsl, hsrl, hsex⟩ := hs.src hrl (fun id' hid => hrd id' (List.mem_cons_of_mem _ hid)) hvy
    obtain ⟨sb, soff, scap, hsv, gv, hgv⟩ := hsex (by omega)
    obtain ⟨hcell, h1⟩ := src_cells (cnt := m) hsz.2 (Nat.le_refl _) hsl hsrl hgv (one_row_one hone)
    obtain ⟨b, off, C, ty, hev, h4, hb, hC, h7, h8, h9, h10, hrows, hlen⟩ := slc_spec hrl hH hvx
    have hoff := h10.resolve_left (by omega)
    rw [Nat.zero_mul] at hoff
    subst hoff
    rw [Nat.zero_add] at h7
    have hfit : (n + m) * B.sz ≤ C.size := Nat.le_trans (Nat.mul_le_mul_right _ (by omega)) h7
    have hnl := news_len i.size m gv
    have hrun := run_append_room' (P := P) w t o.type e i hu hi b n c C ty hC ⟨sb, soff, none⟩ m scap (news i.size m gv) hnl hcell h1 hroom (by rw [hnl, ← Nat.add_mul, ← hBs]; exact hfit)
    have hrun' : (execOp a.eval o).run P w = .ok (.value (.slice (some ⟨b, 0, none⟩) (n + m) c)) (w.setRow b (C.toList.take (n * i.size) ++ news i.size m gv ++ C.toList.drop (n * i.size + (news i.size m gv).length)).toArray) := by
      simp only [execOp, ho, resolve, invoke, builtin]
      simp only [List.map_toArray, List.map_cons, List.map_nil, Sem.run_bind, Sem.run_pure, Result.andThen_ok, hev, hsv, hrun]
    unfold Oper.wp
    rw [hrun']
    rw [← hBs]
    have hw := write_rel (k := k) hrl h4 hAA hb hC hrows hlen n m rows p gv hsl (fun q row h => by rw [hBs]; exact hsrl q row h) (fun q row c v h h' => (hgv q row c v h h').2) hr hfit
    refine hn _ G ρ _ hw.1 (.slc (b := b) (s := B.sz) (ty := ty) (m := C.size) (.inl h4) hb ?_ (by rw [Nat.zero_add]; exact h7) hroom h9 (.inr (by simp))) hw.2
    unfold World.shape?
    rw [setRow_heap w b C _ ty _ hC]
    have hl2 : (C.toList.take (n * B.sz) ++ news B.sz m gv ++ C.toList.drop (n * B.sz + (news B.sz m gv).length)).toArray.size = C.size := by
      rw [Nat.add_mul] at hfit
      simp only [List.size_toArray, List.length_append, List.length_take, List.length_drop, Array.length_toList, news_len]; omega
    simp only [hl2]
end
end Go.AM
end
section
namespace Go.AM
open Go
section
variable {P : Program} {Γ : List (Nat × List AVal)} {o : Oper} {ev : Operand → Option AVal} {get : Nat → Option Blk} {k : Nat}
theorem zero_list (z : Array Value) (n : Nat) : (Builtin.zeroCells z n).toList = news z.size n (fun _ c => z[c]!) := by
  simp [Builtin.zeroCells, news]
theorem zero_get {z : Array Value} {n q c : Nat} (hq : q < n) (hc : c < z.size) : (Builtin.zeroCells z n)[q * z.size + c]? = some z[c] := by
  rw [← Array.getElem?_toList, zero_list, news_get hq hc]
  simp [hc]
theorem repl_get {α : Type} {n q : Nat} {x y : α} (h : (List.replicate n x)[q]? = some y) : q < n ∧ y = x := by
  obtain ⟨h1, h2⟩ := List.getElem?_eq_some_iff.1 h
  rw [List.length_replicate] at h1
  rw [List.getElem_replicate] at h2
  exact ⟨h1, h2.symm⟩
theorem ezero_spec {t s by' : Nat} {zrow : List AVal} (hz : ezero P t = some (s, by', zrow)) : ∃ e i z, P.underlying t = some (.slice e) ∧ P.info? e = some i ∧ i.zero = some z ∧ z.cells.size = i.size ∧ 0 < i.size ∧ s = i.size ∧ by' = i.bytes ∧ zrow = z.cells.toList.map .lit := by
  unfold ezero at hz
  split at hz
  case h_2 => cases hz
  rename_i e hu
  split at hz
  case h_2 => cases hz
  rename_i i hi
  split at hz
  case h_2 => cases hz
  rename_i z hzz
  split at hz
  case isFalse => cases hz
  rename_i hsz
  cases hz
  exact ⟨e, i, z, hu, hi, hzz, hsz.1, hsz.2, rfl, rfl, rfl⟩
theorem clear_good {x : Operand} {t id r n c s by' : Nat} {zrow : List AVal} {B : Blk}
    (ho : o.op = .call { callee := .builtin .clear, args := #[x], argTypes := #[t] }) (hz : ezero P t = some (s, by', zrow)) (hz1 : zrow.all one = true) (hx : ev x = some (.slc id r n c)) (hB : get id = some B) (hBs : B.sz = s) (hn0 : 0 < n) (hr : r + n ≤ B.rows.length) :
    Good P Γ o ev get k ⟨.junk, k, [(id, some ⟨B.sz, B.pure && true, setRows B.rows (List.replicate n zrow) r⟩)], [id]⟩ := by
  refine ⟨?_, fun id' hid => by simp at hid; rw [hid, hB]; rfl, Nat.le_refl _⟩
  intro w G ρ H A a hrl hA hf hrd hop next Q hn
  obtain ⟨e, i, z, hu, hi, hzz, hsz, hs0, rfl, rfl, rfl⟩ := ezero_spec hz
  obtain ⟨B', A', h3, hH, hAA⟩ := hrd id (by simp)
  rw [hB] at h3; cases h3
  have hvx := hop x (by simp [ho, Op.operands, Call.operands]) _ hx
  obtain ⟨b, off, C, ty, hev, h4, hb, hC, h7, h8, h9, h10, hrows, hlen⟩ := slc_spec hrl hH hvx
  have hoff := h10.resolve_left (by omega)
  subst hoff
  have hfit : (r + n) * B.sz ≤ C.size := Nat.le_trans (Nat.mul_le_mul_right _ (by omega)) h7
  have hnl := news_len i.size n (fun _ c => z.cells[c]!)
  have hzl := zero_list z.cells n
  rw [hsz] at hzl
  have hone : ∀ u ∈ news i.size n (fun _ c => z.cells[c]!), u.oneCell' = true := fun u hu => by
    obtain ⟨j, hj⟩ := List.getElem?_of_mem hu
    obtain ⟨h1, h2, rfl⟩ := news_inv hj hs0
    have : j % i.size < z.cells.size := by omega
    have hm : (AVal.lit z.cells[j % i.size]) ∈ z.cells.toList.map AVal.lit := List.mem_map.2 ⟨_, by simp, rfl⟩
    have := List.all_eq_true.1 hz1 _ hm
    simpa [one, *] using this
  have hst := run_storeCells_at P b (r * B.sz) ty (news i.size n (fun _ c => z.cells[c]!)) 0 C w hC (by rw [hnl, ← hBs]; simp only [Nat.add_zero]; rw [← Nat.add_mul]; exact hfit) hone
  simp only [Nat.add_zero] at hst
  have hrun' : (execOp a.eval o).run P w = .ok (.value (.tuple #[])) (w.setRow b (C.toList.take (r * B.sz) ++ news i.size n (fun _ c => z.cells[c]!) ++ C.toList.drop (r * B.sz + (news i.size n (fun _ c => z.cells[c]!)).length)).toArray) := by
    obtain ⟨m, rfl⟩ : ∃ m, n = m + 1 := ⟨n - 1, by omega⟩
    simp only [execOp, ho, resolve, invoke, builtin, Builtin.clear_]
    simp [hev, run_underlying hu, zeroValue, typeInfo, hi, hzz, hzl, hst]
  unfold Oper.wp
  rw [hrun']
  rw [← hBs]
  have hw := write_rel (k := k) hrl h4 hAA hb hC hrows hlen r n (List.replicate n (z.cells.toList.map .lit)) true (fun _ c => z.cells[c]!) (by simp) (fun q row h => by rw [(repl_get h).2]; simp; omega)
    (fun q row c v h h' => by
      obtain ⟨_, rfl⟩ := repl_get h
      rw [List.getElem?_map, Option.map_eq_some_iff] at h'
      obtain ⟨u, hu', rfl⟩ := h'
      rw [Array.getElem?_toList] at hu'
      have : z.cells[c]! = u := by obtain ⟨hc, hue⟩ := Array.getElem?_eq_some_iff.1 hu'; rw [getElem!_pos z.cells c hc]; exact hue
      show V w G (if true then noNames else ρ) (if true then noAllow else A) (.lit u) z.cells[c]!
      rw [this]; exact .lit) (by omega) hfit
  exact hn _ G ρ _ hw.1 .junk hw.2
theorem appz_good {x y : Operand} {t tn id r n c m s by' : Nat} {kn kq : IntKind} {zrow : List AVal} {B : Blk}
    (ho : o.op = .call { callee := .builtin .append, args := #[x, y], argTypes := #[t, tn] }) (hz : ezero P t = some (s, by', zrow)) (htn : P.underlying tn = some (.int kn)) (hx : ev x = some (.slc id r n c)) (hB : get id = some B) (hBs : B.sz = s)
    (hy : ev y = some (.lit (.int kq (m : Int)))) (hm : 0 < m) (hroom : c < n + m) (hby : (n + m) * by' ≤ 140737488355328) (hlen0 : n + m ≤ 9223372036854775807) (hr : r + n ≤ B.rows.length) :
    Good P Γ o ev get k ⟨.sl k 0 (n + m), k + 1, [(k, some ⟨s, B.pure && true, (B.rows.drop r).take n ++ List.replicate m zrow⟩)], [id]⟩ := by
  refine ⟨?_, fun id' hid => by simp at hid; rw [hid, hB]; rfl, Nat.le_succ _⟩
  intro w G ρ H A a hrl hA hf hrd hop next Q hn
  obtain ⟨e, i, z, hu, hi, hzz, hsz, hs0, rfl, rfl, rfl⟩ := ezero_spec hz
  obtain ⟨B', A', h3, hH, hAA⟩ := hrd id (by simp)
  rw [hB] at h3; cases h3
  have hkA : ¬ A k := fun hk => Nat.lt_irrefl _ (hA k hk)
  obtain ⟨hρk, hfr⟩ := hf k (Nat.le_refl _) (Nat.lt_succ_self _)
  have hvx := hop x (by simp [ho, Op.operands, Call.operands]) _ hx
  have hvy := V_bool (hop y (by simp [ho, Op.operands, Call.operands]) _ hy)
  obtain ⟨b, off, C, ty, hev, h4, hb, hC, h7, h8, h9, h10, hrows, hlen⟩ := slc_spec hrl hH hvx
  have hget : ∀ (q : Nat) row, ((B.rows.drop r).take n)[q]? = some row → q < n ∧ B.rows[r + q]? = some row := fun q row h => by
    obtain ⟨h1, h2⟩ := take_get h
    rw [List.getElem?_drop] at h2
    exact ⟨h1, h2⟩
  have hfit : (r + n) * B.sz ≤ C.size := Nat.le_trans (Nat.mul_le_mul_right _ (by omega)) h7
  have hnl := news_len i.size n (fun q c => C.getD ((r + q) * B.sz + c) undef)
  have holds : ∀ j v, (news i.size n (fun q c => C.getD ((r + q) * B.sz + c) undef))[j]? = some v → w.cell? ((⟨b, off, none⟩ : Addr).add j) = some v := fun j v hj => by
    obtain ⟨h1, h2, rfl⟩ := news_inv hj hs0
    have hn0 : 0 < n := Nat.lt_of_le_of_lt (Nat.zero_le _) h1
    have hoff := h10.resolve_left (by omega)
    subst hoff
    rw [Addr.add_mid, cell_of_row w b _ C ty (0, 0) hC]
    have e1 : r * B.sz + j = (r + j / i.size) * B.sz + j % i.size := by have := Nat.div_add_mod j i.size; rw [Nat.add_mul, hBs]; rw [Nat.mul_comm] at this; omega
    have e2 : (r + j / i.size) * B.sz + j % i.size < C.size := by
      have : (r + j / i.size + 1) * B.sz ≤ (r + n) * B.sz := Nat.mul_le_mul_right _ (by omega)
      rw [Nat.add_mul (r + j / i.size)] at this; omega
    rw [e1, Array.getElem?_eq_getElem e2, Array.getD_eq_getD_getElem?, Array.getElem?_eq_getElem e2]
    rfl
  have hfirst : (Builtin.firstCells i.size n (.slice (some ⟨b, off, none⟩) n c)).run P w.drew = .ok (news i.size n (fun q c => C.getD ((r + q) * B.sz + c) undef)).toArray w.drew :=
    run_firstCells_some (P := P) w.drew i.size n ⟨b, off, none⟩ n c _ hnl (fun j v hj => holds j v hj)
  have hrun := Lib.run_append_grow_zeros (P := P) w t tn o.type e i z kq kn hu htn hi hzz (some ⟨b, off, none⟩) n c _ hfirst m hm hs0 hroom (by omega) (by
    have : m * i.bytes ≤ (n + m) * i.bytes := Nat.mul_le_mul_right _ (by omega)
    omega) (growslice_fits hroom hby)
  have hge := grownCap_ge w (n + m) c e
  have hcm := grownCap_le_maxLen w (n + m) c e (by unfold maxLen; omega)
  have hrun' : (execOp a.eval o).run P w = .ok (.value (.slice (some ⟨w.heap.size, 0, none⟩) (n + m) (grownCap w (n + m) c e))) (w.drew.alloc (.cells ((news i.size n (fun q c => C.getD ((r + q) * B.sz + c) undef)).toArray ++ Builtin.zeroCells z.cells m ++ Builtin.zeroCells z.cells (grownCap w (n + m) c e - (n + m))) e)) := by
    simp only [execOp, ho, resolve, invoke, builtin]
    simp only [List.map_toArray, List.map_cons, List.map_nil, Sem.run_bind, Sem.run_pure, Result.andThen_ok, hev, hvy, hrun]
  unfold Oper.wp
  rw [hrun']
  have hV : ∀ (v : AVal) (cv : Value), V w G (if B.pure then noNames else ρ) (if B.pure then noAllow else A') v cv → V w G (if (B.pure && true) then noNames else ρ) (if (B.pure && true) then noAllow else A) v cv := fun v cv h => by
    rw [Bool.and_true]
    cases hp : B.pure with
    | true => rw [hp] at h; simpa using h
    | false => rw [hp] at h; simp only [Bool.false_eq_true, if_false] at h ⊢; exact h.mono (fun _ h => h) (fun _ _ => rfl) (fun _ _ => rfl) hAA (fun _ _ => .inr rfl)
  have hl1 : ((B.rows.drop r).take n).length = n := by simp; omega
  have hrel := hrl.alloc k hρk hfr ⟨i.size, B.pure && true, (B.rows.drop r).take n ++ List.replicate m (z.cells.toList.map .lit)⟩
    ((news i.size n (fun q c => C.getD ((r + q) * B.sz + c) undef)).toArray ++ Builtin.zeroCells z.cells m ++ Builtin.zeroCells z.cells (grownCap w (n + m) c e - (n + m))) e A (fun i => A i ∨ (k ≤ i ∧ i < k + 1)) hkA (fun _ h => .inl h) (.inr ⟨Nat.le_refl _, Nat.lt_succ_self _⟩)
    (fun q row h => by
      have h' : ((B.rows.drop r).take n ++ List.replicate m (z.cells.toList.map .lit))[q]? = some row := h
      rw [List.getElem?_append] at h'
      split at h'
      · rw [← hBs]; exact hlen _ row (hget q row h').2
      · rw [(repl_get h').2]; simp; omega)
    (fun q row cc v h h2 => by
      have h' : ((B.rows.drop r).take n ++ List.replicate m (z.cells.toList.map .lit))[q]? = some row := h
      show ∃ cv, ((news i.size n (fun q c => C.getD ((r + q) * B.sz + c) undef)).toArray ++ Builtin.zeroCells z.cells m ++ Builtin.zeroCells z.cells (grownCap w (n + m) c e - (n + m)))[q * i.size + cc]? = some cv ∧ V w G (if (B.pure && true) then noNames else ρ) (if (B.pure && true) then noAllow else A) v cv
      rw [List.getElem?_append] at h'
      split at h'
      · obtain ⟨hq, h5⟩ := hget q row h'
        obtain ⟨cu, h6, h7⟩ := hrows _ row cc v h5 h2
        have hc : cc < i.size := by have := (List.getElem?_eq_some_iff.1 h2).1; have := hlen _ row h5; omega
        have hlt := (List.getElem?_eq_some_iff.1 (news_get (gv := fun q c => C.getD ((r + q) * B.sz + c) undef) hq hc)).1
        refine ⟨cu, ?_, hV v cu h7⟩
        rw [Array.append_assoc, Array.getElem?_append_left (by simpa using hlt), List.getElem?_toArray, news_get hq hc, Array.getD_eq_getD_getElem?, h6]
        rfl
      · rename_i hge'
        rw [hl1] at h' hge'
        obtain ⟨hq, rfl⟩ := repl_get h'
        rw [List.getElem?_map, Option.map_eq_some_iff] at h2
        obtain ⟨u, hu', rfl⟩ := h2
        rw [Array.getElem?_toList] at hu'
        obtain ⟨hc, hue⟩ := Array.getElem?_eq_some_iff.1 hu'
        refine ⟨u, ?_, .lit⟩
        have hsz1 : (news i.size n (fun q c => C.getD ((r + q) * B.sz + c) undef)).toArray.size = n * i.size := by rw [List.size_toArray]; exact hnl
        have hz1 : (Builtin.zeroCells z.cells m).size = m * i.size := by rw [size_zeroCells, hsz]
        have e1 : q * i.size + cc - n * i.size = (q - n) * i.size + cc := by
          have : q * i.size = n * i.size + (q - n) * i.size := by rw [← Nat.add_mul]; congr 1; omega
          omega
        have e2 : (q - n) * i.size + cc < m * i.size := by
          have : (q - n + 1) * i.size ≤ m * i.size := Nat.mul_le_mul_right _ hq
          rw [Nat.add_mul] at this; omega
        have e3 : n * i.size ≤ q * i.size + cc := by
          have : n * i.size ≤ q * i.size := Nat.mul_le_mul_right _ (by omega)
          omega
        rw [Array.append_assoc, Array.getElem?_append_right (by rw [hsz1]; exact e3), hsz1, e1, Array.getElem?_append_left (by rw [hz1]; exact e2)]
        have := zero_get (z := z.cells) hq hc
        rw [hsz] at this
        rw [this, hue])
    w.drew rfl rfl rfl rfl
  have hst := step_alloc (w := w) (G := G) (ρ := ρ) k i.size (.cells ((news i.size n (fun q c => C.getD ((r + q) * B.sz + c) undef)).toArray ++ Builtin.zeroCells z.cells m ++ Builtin.zeroCells z.cells (grownCap w (n + m) c e - (n + m))) e) w.drew rfl rfl rfl rfl
  refine hn _ G _ _ hrel ?_ ⟨hst.size, hst.keep, hst.shape, hst.g, hst.g', hst.own, fun id hid => hst.ids id (fun he => hid (show k ≤ id ∧ id < k + 1 by omega)), hst.os, hst.tape, hst.output⟩
  refine .sl (b := w.heap.size) (s := i.size) (ty := e) (m := ((news i.size n (fun q c => C.getD ((r + q) * B.sz + c) undef)).toArray ++ Builtin.zeroCells z.cells m ++ Builtin.zeroCells z.cells (grownCap w (n + m) c e - (n + m))).size) (.inr ⟨Nat.le_refl _, Nat.lt_succ_self _⟩) (by simp [setN]) ?_ ?_ hge hcm (.inr (by simp))
  · have := heap_push_new w.drew (.cells ((news i.size n (fun q c => C.getD ((r + q) * B.sz + c) undef)).toArray ++ Builtin.zeroCells z.cells m ++ Builtin.zeroCells z.cells (grownCap w (n + m) c e - (n + m))) e)
    have e1 : w.drew.heap.size = w.heap.size := rfl
    rw [e1] at this
    unfold World.shape?
    rw [this]
  · rw [Array.size_append, Array.size_append, List.size_toArray, hnl, size_zeroCells, size_zeroCells, hsz, ← Nat.add_mul, ← Nat.add_mul]
    exact Nat.mul_le_mul_right _ (by omega)
end
end Go.AM
end
section
namespace Go.AM
open Go
section
variable {P : Program} {Γ : List (Nat × List AVal)} {o : Oper} {ev : Operand → Option AVal} {get : Nat → Option Blk} {k : Nat}
theorem sl_cells {w : World} {G : Nat → Prop} {ρ : Names} {H : Owner} {A A' : Allow} (hr : HRel Γ w G ρ H) {id r n : Nat} {B : Blk} (hH : H id = some (B, A')) {cv : Value} (h0 : 0 < n) (hv : V w G ρ A (.sl id r n) cv) :
    ∃ b off c C ty, cv = .slice (some ⟨b, off, none⟩) n c ∧ ρ id = some (b, B.sz) ∧ w.heap[b]? = some (.cells C ty (0, 0)) ∧ B.rows.length * B.sz ≤ C.size := by
  obtain ⟨_, b, hb, _, ⟨⟨C, ty, hC, hrows⟩, hlen⟩⟩ := hr.blk id B A' hH
  cases hv with
  | dangs _ hn => rw [hb] at hn; cases hn
  | sl0 => omega
  | sl h1 h2 h3 h4 h5 h6 h7 =>
    rw [hb] at h2; cases h2
    exact ⟨b, _, _, C, ty, rfl, hb, hC, rows_fit hrows hlen⟩
theorem overlaps_good {f x y : Operand} {ty : Array TypeId} {g tS tR e s : Nat} {fn : Func} {i1 r1 n1 i2 r2 n2 : Nat} {v : AVal} {B1 B2 : Blk}
    (ho : o.op = .call { callee := .value f, args := #[x, y], argTypes := ty }) (hf : ev f = some (.fn g [])) (hfn : P.funcs[g]? = some fn) (hname : (fn.name == "runtime.NumGoroutine") = false) (hb : fn.body.isNone = true) (hn : Extern.findNext fn = none)
    (he : Extern.find fn = some (Extern.SlicesOverlaps.overlaps #[tS, tS] #[tR])) (hu : P.underlying tS = some (.slice e)) (hs : tsz P e = some s)
    (hx : ev x = some (.sl i1 r1 n1)) (hy : ev y = some v) (hv : deS v = .sl i2 r2 n2) (hne : i1 ≠ i2) (hB1 : get i1 = some B1) (hB2 : get i2 = some B2) (hn1 : 0 < n1) (hn2 : 0 < n2) (h2 : 0 < B2.rows.length) (h3 : 0 < B2.sz) :
    Good P Γ o ev get k ⟨.lit (.bool false), k, [], [i1, i2]⟩ := by
  refine ⟨OpOk_quiet fun w G ρ H A a hr hrd hop => ⟨.bool false, ?_, .lit⟩, fun id hid => by
    simp only [List.mem_cons, List.not_mem_nil, or_false] at hid
    rcases hid with rfl | rfl
    · rw [hB1]; rfl
    · rw [hB2]; rfl, Nat.le_refl _⟩
  obtain ⟨C1, A1, h4, hH1, _⟩ := hrd i1 (by simp)
  rw [hB1] at h4; cases h4
  obtain ⟨C2, A2, h4, hH2, _⟩ := hrd i2 (by simp)
  rw [hB2] at h4; cases h4
  have hvx := hop x (by simp [ho, Op.operands, Call.operands]) _ hx
  have hvy := deS_V (hop y (by simp [ho, Op.operands, Call.operands]) _ hy)
  rw [hv] at hvy
  have hvf := hop f (by simp [ho, Op.operands, Call.operands]) _ hf
  obtain ⟨b1, o1, c1, D1, t1, e1, g1, w1, _⟩ := sl_cells hr hH1 hn1 hvx
  obtain ⟨b2, o2, c2, D2, t2, e2, g2, w2, k2⟩ := sl_cells hr hH2 hn2 hvy
  have hbne : b1 ≠ b2 := fun hh => hne (by subst hh; exact hr.inj _ _ _ _ _ g1 g2)
  have hfz : ∀ q, w.frozen? ⟨b1, q, none⟩ = false := fun q => by unfold World.frozen?; simp [w1]
  have hov := Lib.run_overlaps_apart (P := P) w tS tR e hu s (fun w => by
    simp only [tsz, Option.map_eq_some_iff] at hs
    obtain ⟨i, hi, rfl⟩ := hs
    simp [sizeOf, typeInfo, hi]) ⟨b1, o1, none⟩ ⟨b2, o2, none⟩ n1 c1 n2 c2 hbne t1 t2 D1.size D2.size (by unfold World.shape?; rw [w1]) (by unfold World.shape?; rw [w2]) (fun h0 => by
      have : 1 * 1 ≤ B2.rows.length * B2.sz := Nat.mul_le_mul h2 h3
      omega) (hfz _) (hfz _)
  have hcall : (callFunc g #[.slice (some ⟨b1, o1, none⟩) n1 c1, .slice (some ⟨b2, o2, none⟩) n2 c2]).run P w = .ok (.value (.bool false)) w := by
    rw [run_callFunc_extern hfn hname hb hn he, hov]
    rfl
  generalize hev : a.eval f = cv at hvf
  cases hvf with
  | fn h5 h6 =>
    rename_i cs
    have : cs = #[] := Array.eq_empty_of_size_eq_zero (by simpa using h5.symm)
    subst this
    simp only [execOp, ho, resolve, hev, Deferred.ofValue, Sem.run_bind, Sem.run_pure, Result.andThen_ok, invoke, List.map_toArray, List.map_cons, List.map_nil, e1, e2, Array.append_empty, Array.empty_append]
    exact hcall
end
end Go.AM
end
section
namespace Go.AM
open Go
theorem nq0 {a b : Nat} (h : a ≠ b) : (a = b) = False := eq_false h
def fam (f s : Nat) : Nat → (Nat → List (List AVal)) → Heap
  | 0, _ => []
  | n + 1, R => (f, ⟨s, true, R 0⟩) :: fam (f + 1) s n (fun j => R (j + 1))
section
variable {f s n g i : Nat} {R R' : Nat → List (List AVal)}
theorem look_fam (h : g < n) : AM.look (fam f s n R) (f + g) = some ⟨s, true, R g⟩ := by
  induction n generalizing f g R with
  | zero => omega
  | succ n ih =>
    simp only [fam, AM.look]
    cases g with
    | zero => simp
    | succ g =>
      rw [if_neg (by omega)]
      have := ih (f := f + 1) (g := g) (R := fun j => R (j + 1)) (by omega)
      rw [← this]; congr 1; omega
theorem look_famO (h : i < f ∨ f + n ≤ i) : AM.look (fam f s n R) i = none := by
  induction n generalizing f R with
  | zero => rfl
  | succ n ih =>
    simp only [fam, AM.look]
    rw [if_neg (by omega)]
    exact ih (by omega)
theorem look_famI {B : Blk} (h : AM.look (fam f s n R) i = some B) : f ≤ i ∧ i < f + n := by
  by_cases hc : i < f ∨ f + n ≤ i
  · rw [look_famO hc] at h; cases h
  · omega
theorem del_famO (h : i < f ∨ f + n ≤ i) : del (fam f s n R) i = fam f s n R := by
  induction n generalizing f R with
  | zero => rfl
  | succ n ih =>
    simp only [fam, del]
    rw [if_neg (by omega), ih (by omega)]
theorem setH_fam {rows : List (List AVal)} (h : g < n) : setH (fam f s n R) (f + g) ⟨s, true, rows⟩ = fam f s n (fun j => if j = g then rows else R j) := by
  induction n generalizing f g R with
  | zero => omega
  | succ n ih =>
    simp only [fam, setH]
    cases g with
    | zero => simp
    | succ g =>
      rw [if_neg (by omega)]
      have := ih (f := f + 1) (g := g) (R := fun j => R (j + 1)) (by omega)
      have e : f + 1 + g = f + (g + 1) := by omega
      rw [e] at this
      rw [this]
      simp
theorem fam_congr (h : ∀ g, g < n → R g = R' g) : fam f s n R = fam f s n R' := by
  induction n generalizing f R R' with
  | zero => rfl
  | succ n ih =>
    simp only [fam]
    rw [h 0 (by omega), ih (fun g hg => h (g + 1) (by omega))]
def famIn (H : Heap) (f s n : Nat) (R : Nat → List (List AVal)) : Prop := ∀ g, g < n → AM.look H (f + g) = some ⟨s, true, R g⟩
theorem famIn_cons {H : Heap} {B : Blk} (h : i < f ∨ f + n ≤ i) : famIn ((i, B) :: H) f s n R = famIn H f s n R := by
  unfold famIn
  refine propext ⟨fun h1 g hg => ?_, fun h1 g hg => ?_⟩
  · have := h1 g hg; simp only [AM.look] at this; rwa [if_neg (by omega)] at this
  · simp only [AM.look]; rw [if_neg (by omega)]; exact h1 g hg
theorem famIn_self : famIn (fam f s n R) f s n R = True := eq_true fun g hg => look_fam hg
theorem leH_fam {H : Heap} : leH H (fam f s n R) = famIn H f s n R := by
  unfold famIn
  induction n generalizing f R with
  | zero => simp [fam, leH]
  | succ n ih =>
    simp only [fam, leH]
    rw [ih]
    refine propext ⟨fun ⟨h1, h2⟩ g hg => ?_, fun h => ⟨h 0 (by omega), fun g hg => ?_⟩⟩
    · cases g with
      | zero => exact h1
      | succ g => have := h2 g (by omega); rw [← this]; congr 1; omega
    · have := h (g + 1) (by omega); rw [← this]; congr 1; omega
theorem bdH_fam {k : Nat} (h : f + n ≤ k) : bdH (ltB k) (fam f s n R) = true := by
  induction n generalizing f R with
  | zero => rfl
  | succ n ih =>
    simp only [fam, bdH, List.all_cons, Bool.true_or, Bool.and_true, Bool.and_eq_true]
    refine ⟨by simp [ltB]; omega, ?_⟩
    exact ih (by omega)
theorem swH_fam {a b : Nat} (h : (a < f ∨ f + n ≤ a) ∧ (b < f ∨ f + n ≤ b)) : swH a b (fam f s n R) = fam f s n R := by
  induction n generalizing f R with
  | zero => rfl
  | succ n ih =>
    have h1 : sw a b f = f := sw_ne (by omega) (by omega)
    simp only [fam]
    have e : swH a b ((f, ⟨s, true, R 0⟩) :: fam (f + 1) s n fun j => R (j + 1)) = (sw a b f, swB a b ⟨s, true, R 0⟩) :: swH a b (fam (f + 1) s n fun j => R (j + 1)) := rfl
    rw [e, h1, ih (by omega)]
    rfl
end
attribute [go_sem] look_fam look_famO del_famO setH_fam famIn_cons famIn_self leH_fam bdH_fam swH_fam
section
variable {P : Program} {Γ : List (Nat × List AVal)} {nt kb : Nat} {Q : AQ} {k : Nat} {fr : Fr} {H : Heap} {c : Code}
theorem Mv.phantom (id s : Nat) {B : Blk} (hB : AM.look H id = some B) (hk : id < k) : Mv kb k fr H (k + 1) fr ((k, ⟨s, true, []⟩) :: del H id) := fun hkb => ⟨by omega, fun Γ nt A0 w G ρ ac hA hi => by
  have hAk : ¬ alw A0 kb k k := fun h => by
    rcases h with h | h
    · have := hA _ h; omega
    · omega
  have hal : ∀ i, alw A0 kb k i → alw A0 kb (k + 1) i := fun i h => h.imp (fun h => h) (fun h => ⟨h.1, by omega⟩)
  obtain ⟨hAid, b, hb, hg, hBR⟩ := hi.rel.blk id B (alw A0 kb k) (by simp [ofHeap, hB])
  have hne : id ≠ k := by omega
  have hρk : ρ k = none := by
    cases hl : look H k with
    | none => exact hi.rel.dom k (by simp [ofHeap, hl])
    | some B => exact absurd (hi.rel.blk k B (alw A0 kb k) (by simp only [ofHeap, hl, Option.map_some])).1 hAk
  have hρ : ∀ i, alw A0 kb k i → setN (setN ρ id none) k (some (b, s)) i = none ∨ setN (setN ρ id none) k (some (b, s)) i = ρ i := fun i h => by
    simp only [setN]
    by_cases h1 : i = k
    · subst h1; exact absurd h hAk
    · rw [if_neg h1]; split
      · exact .inl rfl
      · exact .inr rfl
  have hV : ∀ v cv, V w G ρ (alw A0 kb k) v cv → V w G (setN (setN ρ id none) k (some (b, s))) (alw A0 kb (k + 1)) v cv := fun v cv h =>
    h.mono (fun _ h => h) (fun _ _ => rfl) (fun _ _ => rfl) hal hρ
  refine ⟨G, setN (setN ρ id none) k (some (b, s)), ⟨⟨fun i h => ?_, fun i B' A h => ?_, fun i j x y z h1 h2 => ?_, hi.rel.ro, hi.rel.glob⟩, hi.size, hi.defers, fun t v hv => hV v _ (hi.frm t v hv)⟩, ⟨Nat.le_refl _, fun _ _ _ => rfl, fun _ _ => rfl, fun _ h => h, fun _ h => .inl h, ?_, fun i h => ?_, rfl, rfl, rfl⟩⟩
  · simp only [ofHeap, Option.map_eq_none_iff, look] at h
    split at h
    · cases h
    · rename_i h1
      simp only [setN]
      rw [if_neg (fun e => h1 e.symm)]
      split
      · rfl
      · rename_i h2
        rw [look_del, if_neg h2] at h
        exact hi.rel.dom i (by simp [ofHeap, h])
  · simp only [ofHeap, Option.map_eq_some_iff, look] at h
    obtain ⟨B1, h, he⟩ := h
    cases he
    split at h
    · rename_i h1
      subst h1
      cases h
      obtain ⟨C, ty, hC, _⟩ := hBR.ex
      refine ⟨.inr ⟨hkb, Nat.lt_succ_self _⟩, b, by simp [setN], hg, ⟨⟨C, ty, hC, fun r row c v h1 _ => by simp at h1⟩, fun r row h1 => by simp at h1⟩⟩
    · rename_i h1
      rw [look_del] at h
      split at h
      · cases h
      · rename_i h2
        obtain ⟨h3, x, h4, h5, ⟨⟨C, ty, hC, hrows⟩, hlen⟩⟩ := hi.rel.blk i B' (alw A0 kb k) (by simp [ofHeap, h])
        refine ⟨hal i h3, x, by simp only [setN]; rw [if_neg (fun e => h1 e.symm), if_neg h2]; exact h4, h5, ⟨⟨C, ty, hC, fun r row c v h6 h7 => ?_⟩, hlen⟩⟩
        obtain ⟨cv, h8, h9⟩ := hrows r row c v h6 h7
        refine ⟨cv, h8, ?_⟩
        by_cases hp : B'.pure = true
        · simp only [hp, if_true] at h9 ⊢; exact h9
        · simp only [hp] at h9 ⊢; exact hV _ _ h9
  · have side : ∀ i s', setN (setN ρ id none) k (some (b, s)) i = some (x, s') → (i = k ∧ x = b) ∨ (i ≠ k ∧ i ≠ id ∧ ρ i = some (x, s')) := fun i s' h => by
      simp only [setN] at h
      split at h
      · rename_i hq; cases h; exact .inl ⟨hq, rfl⟩
      · rename_i hq
        split at h
        · cases h
        · rename_i hq2; exact .inr ⟨hq, hq2, h⟩
    rcases side i y h1 with ⟨e1, e2⟩ | ⟨e1, e2, e3⟩ <;> rcases side j z h2 with ⟨f1, f2⟩ | ⟨f1, f2, f3⟩
    · rw [e1, f1]
    · subst e2; exact absurd (hi.rel.inj j id _ _ _ f3 hb) f2
    · subst f2; exact absurd (hi.rel.inj i id _ _ _ e3 hb) e2
    · exact hi.rel.inj i j x y z e3 f3
  · rintro x ⟨i, s', hx⟩
    simp only [setN] at hx
    split at hx
    · cases hx; exact .inl ⟨id, _, hb⟩
    · split at hx
      · cases hx
      · exact .inl ⟨i, s', hx⟩
  · have h' : i < kb := h
    simp only [setN]
    rw [if_neg (by omega)]
    split
    · exact .inl rfl
    · exact .inr rfl⟩
end
end Go.AM
end
section
namespace Go.AM
open Go
theorem nq3 {a b : Nat} (h : a ≤ b) : (a ≤ b) = True := eq_true h
theorem nq4 {a b : Nat} (h : b < a) : (a ≤ b) = False := eq_false (by omega)
theorem nq5 {a b : Nat} (h : a < b) : (a < b) = True := eq_true h
theorem ltB_iff {k i : Nat} : ltB k i = decide (i < k) := rfl
theorem wkD {kb k : Nat} {fr : Fr} {H : Heap} {k1 : Nat} {fr1 : Fr} {H1 : Heap} (hb : kb ≤ k1 := by omega) (hf : leF fr fr1 := by simp -dsimp -implicitDefEqProofs (disch := omega) only [go_sem, nq0, List.map_append, eq_self, ↓reduceIte]) (hH : leH H H1 := by simp -dsimp -implicitDefEqProofs (disch := omega) only [go_sem, nq0, List.map_append, eq_self, ↓reduceIte]) (h : bdF (ltB k1) fr1 = true := by simp -dsimp -implicitDefEqProofs (disch := omega) only [go_sem, nq0, nq5, ltB_iff, List.map_append, eq_self, ↓reduceIte]) (h' : bdH (ltB k1) H1 = true := by simp -dsimp -implicitDefEqProofs (disch := omega) only [go_sem, nq0, nq5, ltB_iff, List.map_append, eq_self, ↓reduceIte]) : Mv kb k fr H k1 fr1 H1 :=
  Mv.wk (wk_low hb hf hH h h')
theorem drawD {ops : Array Oper} {tr : List Foot} (g : Nat → Nat) {L : List (List Nat × List Nat)} (hL : tr.map (shG g) = L := by (simp -dsimp (disch := omega) only [List.map_cons, List.map_nil, shG, nq0, nq3, nq4, eq_self, ↓reduceIte, Nat.add_sub_cancel_left, Nat.sub_self]; rfl)) (h : drawN ops L = true := by decide +kernel) (hm : (tr.all fun f => f.mods.all fun x => decide (x < f.k')) = true := by simp -dsimp -implicitDefEqProofs (disch := omega) only [go_sem, nq0, nq5, ltB_iff, List.map_append, eq_self, ↓reduceIte]) : drawOk ops tr = true := drawOk_names g hL h hm
theorem drawE {ops : Array Oper} {tr : List Foot} (h : drawS ops (tr.map sh) = true := by kernel_rfl) (hm : (tr.all fun f => f.mods.all fun x => decide (x < f.k')) = true := by simp -dsimp -implicitDefEqProofs (disch := omega) only [go_sem, nq0, nq5, ltB_iff, List.map_append, eq_self, ↓reduceIte]) : drawOk ops tr = true := drawOk_of h hm
section
variable {P : Program} {Γ : List (Nat × List AVal)} {nt kb : Nat} {Q : AQ} {k : Nat} {fr : Fr} {H : Heap} {c : Code}
theorem Mv.nilrow (id j tk r n : Nat) {B T : Blk} {row : List AVal} (hB : AM.look H id = some B) (hT : AM.look H tk = some T) (hne : tk ≠ id) (hp : B.pure = false) (hrow : B.rows[r]? = some row) (hj : row[j]? = some (.lit (.slice none 0 0))) :
    Mv kb k fr H k fr ((id, ⟨B.sz, false, B.rows.set r (row.set j (.sl tk n 0))⟩) :: del H id) := fun hkb => ⟨hkb, fun Γ nt A0 w G ρ ac hA hi => by
  obtain ⟨hAid, b, hb, hg, hBR⟩ := hi.rel.blk id B (alw A0 kb k) (by simp [ofHeap, hB])
  obtain ⟨hAt, bt, hbt, _, _⟩ := hi.rel.blk tk T (alw A0 kb k) (by simp [ofHeap, hT])
  obtain ⟨⟨C, ty, hC, hrows⟩, hlen⟩ := hBR
  refine ⟨G, ρ, ⟨⟨fun i h => ?_, fun i B' A h => ?_, hi.rel.inj, hi.rel.ro, hi.rel.glob⟩, hi.size, hi.defers, hi.frm⟩, Step.refl _ _ _ _⟩
  · simp only [ofHeap, Option.map_eq_none_iff, look] at h
    split at h
    · cases h
    · rename_i h1
      rw [look_del, if_neg (fun e => h1 e.symm)] at h
      exact hi.rel.dom i (by simp [ofHeap, h])
  · simp only [ofHeap, Option.map_eq_some_iff, look] at h
    obtain ⟨B1, h, he⟩ := h
    cases he
    split at h
    · rename_i h1
      subst h1
      cases h
      refine ⟨hAid, b, hb, hg, ⟨⟨C, ty, hC, fun q row' cc v h1 h2 => ?_⟩, fun q row' h1 => ?_⟩⟩
      · have h1' : (B.rows.set r (row.set j (.sl tk n 0)))[q]? = some row' := h1
        rw [List.getElem?_set] at h1'
        simp only [Bool.false_eq_true, if_false]
        split at h1'
        · rename_i hq
          subst hq
          split at h1'
          · cases h1'
            rw [List.getElem?_set] at h2
            split at h2
            · rename_i hc
              subst hc
              split at h2
              · cases h2
                obtain ⟨cv, h3, h4⟩ := hrows r row j _ hrow hj
                rw [hp] at h4
                cases h4
                exact ⟨_, h3, .sl0 hAt hbt⟩
              · cases h2
            · obtain ⟨cv, h3, h4⟩ := hrows r row cc v hrow h2
              rw [hp] at h4
              exact ⟨cv, h3, by simpa using h4⟩
          · cases h1'
        · obtain ⟨cv, h3, h4⟩ := hrows q row' cc v h1' h2
          rw [hp] at h4
          exact ⟨cv, h3, by simpa using h4⟩
      · have h1' : (B.rows.set r (row.set j (.sl tk n 0)))[q]? = some row' := h1
        rw [List.getElem?_set] at h1'
        split at h1'
        · split at h1'
          · cases h1'; rw [List.length_set]; exact hlen r row hrow
          · cases h1'
        · exact hlen q row' h1'
    · rename_i h1
      rw [look_del] at h
      split at h
      · cases h
      · exact hi.rel.blk i B' (alw A0 kb k) (by simp [ofHeap, h])⟩
theorem Tr_in {f : FuncId} {k kk : Nat} {args : List AVal} {H RH : Heap} {V : AVal} (hk : k ≤ kk) (hb : bd (ltB kk) V = true) (hB : bdH (ltB kk) RH = true) (h : Tr P Γ f k args H (fun _ r1 H1 => r1 = V ∧ leH H1 RH)) :
    Tr P Γ f k args H (fun k1 r1 H1 => k1 = kk ∧ r1 = V ∧ H1 = RH) :=
  Tr.weaken h fun k' r H' _ hq => ⟨kk, V, RH, hk, hq.1 ▸ VLe.refl _, fun id B hid => ⟨B, leH_look hq.2 id B hid, BLe.refl B⟩, .inr ⟨hb, hB⟩, rfl, rfl, rfl⟩
end
end Go.AM
end
section
namespace Go.AM
theorem apN {α : Type} (l : List α) : l ++ [] = l := List.append_nil l
theorem ssN {α : Type} (l : List α) (i : Nat) (a b : α) : (l.set i a).set i b = l.set i b := List.set_set ..
theorem lrN {α : Type} {n : Nat} {a : α} : (List.replicate n a).length = n := List.length_replicate
theorem lcN {α : Type} {a : α} {l : List α} : (a :: l).length = l.length + 1 := List.length_cons
theorem drawKD {keep : List Nat} {g : Nat → Nat} (_ : Kp keep g) {ops : Array Oper} {tr : List Foot} {L : List (List Nat × List Nat)} (hL : tr.map (shG g) = L := by (simp -dsimp (disch := omega) only [List.map_cons, List.map_nil, shG, nq0, nq3, nq4, eq_self, ↓reduceIte, Nat.add_sub_cancel_left, Nat.sub_self]; rfl)) (h : drawN ops L = true := by decide +kernel) (hm : (tr.all fun f => f.mods.all fun x => decide (x < f.k')) = true := by simp -dsimp -implicitDefEqProofs (disch := omega) only [go_sem, nq0, nq5, ltB_iff, List.map_append, List.map_cons, List.map_nil, eq_self, ↓reduceIte]) : drawOk ops tr = true := drawD g hL h hm
theorem wlD {Q P1 P2 P3 P4 P5 P6 P7 P8 P9 P10 P11 P12 : Prop} (p : Hd P1 ∧ Hd P2 ∧ Hd P3 ∧ Hd P4 ∧ Hd P5 ∧ Hd P6 ∧ Hd P7 ∧ Hd P8 ∧ Hd P9 ∧ Hd P10 ∧ Hd P11 ∧ Hd P12)
    (h : Hd P1 → Hd P2 → Hd P3 → Hd P4 → Hd P5 → Hd P6 → Hd P7 → Hd P8 → Hd P9 → Hd P10 → Hd P11 → Hd P12 → Q := by
  intro a1 a2 a3 a4 a5 a6 a7 a8 a9 a10 a11 a12
  refine two ?_ ?_
  · (repeat' (first | (refine C_seq rfl ?_) | (refine C_block rfl ?_) | (refine C_skip rfl ?_; (try simp -dsimp -implicitDefEqProofs (disch := omega) only [go_sem, nq0, uU, eq_self, ↓reduceIte])) | (refine C_exit rfl ?_; (try simp -dsimp -implicitDefEqProofs (disch := omega) only [go_sem, nq0, uU, eq_self, ↓reduceIte])) | (refine C_cond rfl _ rfl (fun zt => ?_) (fun zt => ?_) <;> (try (simp only [nf] at zt)) <;> (try (exfalso; omega))) | ((first | (refine S_reg0K kp rfl rfl rfl (fun zK hK => ?_)) | (refine S_drw0K kp rfl rfl (by kernel_rfl) rfl (fun zK hK => ?_))); simp -dsimp -implicitDefEqProofs (disch := omega) only [go_sem, nq0, uU, eq_self, ↓reduceIte]; (repeat' (first | (refine And.intro ?_ ?_) | (refine gs_both (fun hb => ?_) (fun hb => ?_) <;> (have zg := hb; (try simp only [nfb] at zg); simp -dsimp -implicitDefEqProofs (disch := omega) only [go_sem, nq0, uU, hb, zg, eq_self, ↓reduceIte]; clear hb; (try simp only [nfe] at zg))))); any_goals ((first | refine hK _ _ _ _ (fun hx => ?_) | refine hK _ _ _ _ (drawKD kp) (fun hx => ?_) | refine hK _ _ _ _ drawE (fun hx => ?_)); clear hx hK; simp -dsimp -implicitDefEqProofs (disch := omega) only [go_sem, nq0, uU, eq_self, ↓reduceIte]; (try simp (disch := omega) only [wrap_i64, wrap_u64, wrap_u32, wrap_u8]))) | omega))
    all_goals (refine Hd.o ?_; (repeat revert zg); refine Hd.o ?_; (repeat revert zt); first | ((fail_if_success (fail_if_success (have zz : Hd Mk := a1))); exact Hd.o a1) | ((fail_if_success (fail_if_success (have zz : Hd Mk := a2))); exact Hd.o a2) | ((fail_if_success (fail_if_success (have zz : Hd Mk := a3))); exact Hd.o a3) | ((fail_if_success (fail_if_success (have zz : Hd Mk := a4))); exact Hd.o a4) | ((fail_if_success (fail_if_success (have zz : Hd Mk := a5))); exact Hd.o a5) | ((fail_if_success (fail_if_success (have zz : Hd Mk := a6))); exact Hd.o a6) | ((fail_if_success (fail_if_success (have zz : Hd Mk := a7))); exact Hd.o a7) | ((fail_if_success (fail_if_success (have zz : Hd Mk := a8))); exact Hd.o a8) | ((fail_if_success (fail_if_success (have zz : Hd Mk := a9))); exact Hd.o a9) | ((fail_if_success (fail_if_success (have zz : Hd Mk := a10))); exact Hd.o a10) | ((fail_if_success (fail_if_success (have zz : Hd Mk := a11))); exact Hd.o a11) | ((fail_if_success (fail_if_success (have zz : Hd Mk := a12))); exact Hd.o a12))
  · (try have zz : Hd True := a1); (try have zz : Hd True := a2); (try have zz : Hd True := a3); (try have zz : Hd True := a4); (try have zz : Hd True := a5); (try have zz : Hd True := a6); (try have zz : Hd True := a7); (try have zz : Hd True := a8); (try have zz : Hd True := a9); (try have zz : Hd True := a10); (try have zz : Hd True := a11); (try have zz : Hd True := a12)
    exact trivial) : Q := h p.1 p.2.1 p.2.2.1 p.2.2.2.1 p.2.2.2.2.1 p.2.2.2.2.2.1 p.2.2.2.2.2.2.1 p.2.2.2.2.2.2.2.1 p.2.2.2.2.2.2.2.2.1 p.2.2.2.2.2.2.2.2.2.1 p.2.2.2.2.2.2.2.2.2.2.1 p.2.2.2.2.2.2.2.2.2.2.2
theorem clD (os : List Orc) {Q P1 P2 P3 P4 P5 P6 P7 P8 P9 P10 P11 P12 : Prop} (p : Hd P1 ∧ Hd P2 ∧ Hd P3 ∧ Hd P4 ∧ Hd P5 ∧ Hd P6 ∧ Hd P7 ∧ Hd P8 ∧ Hd P9 ∧ Hd P10 ∧ Hd P11 ∧ Hd P12)
    (h : Os os → Hd P1 → Hd P2 → Hd P3 → Hd P4 → Hd P5 → Hd P6 → Hd P7 → Hd P8 → Hd P9 → Hd P10 → Hd P11 → Hd P12 → Q := by
  intro oo a1 a2 a3 a4 a5 a6 a7 a8 a9 a10 a11 a12
  refine two ?_ ?_
  · (refine S_regK kp oo rfl rfl (fun zK hK => ?_)); simp -dsimp -implicitDefEqProofs (disch := omega) only [go_sem, nq0, uU, eq_self, ↓reduceIte]; (repeat' (first | (refine And.intro ?_ ?_) | (refine gs_both (fun hb => ?_) (fun hb => ?_) <;> (have zg := hb; (try simp only [nfb] at zg); simp -dsimp -implicitDefEqProofs (disch := omega) only [go_sem, nq0, uU, hb, zg, eq_self, ↓reduceIte]; clear hb; (try simp only [nfe] at zg))))); (any_goals ((refine hK _ _ _ _ (fun hx => ?_)); clear hx hK; simp -dsimp -implicitDefEqProofs (disch := omega) only [go_sem, nq0, uU, eq_self, ↓reduceIte]; (try simp (disch := omega) only [wrap_i64, wrap_u64, wrap_u32, wrap_u8]))); (all_goals (try omega))
    all_goals (refine Hd.o ?_; (repeat revert zg); refine Hd.o ?_; (repeat revert zt); first | ((fail_if_success (fail_if_success (have zz : Hd Mk := a1))); exact Hd.o a1) | ((fail_if_success (fail_if_success (have zz : Hd Mk := a2))); exact Hd.o a2) | ((fail_if_success (fail_if_success (have zz : Hd Mk := a3))); exact Hd.o a3) | ((fail_if_success (fail_if_success (have zz : Hd Mk := a4))); exact Hd.o a4) | ((fail_if_success (fail_if_success (have zz : Hd Mk := a5))); exact Hd.o a5) | ((fail_if_success (fail_if_success (have zz : Hd Mk := a6))); exact Hd.o a6) | ((fail_if_success (fail_if_success (have zz : Hd Mk := a7))); exact Hd.o a7) | ((fail_if_success (fail_if_success (have zz : Hd Mk := a8))); exact Hd.o a8) | ((fail_if_success (fail_if_success (have zz : Hd Mk := a9))); exact Hd.o a9) | ((fail_if_success (fail_if_success (have zz : Hd Mk := a10))); exact Hd.o a10) | ((fail_if_success (fail_if_success (have zz : Hd Mk := a11))); exact Hd.o a11) | ((fail_if_success (fail_if_success (have zz : Hd Mk := a12))); exact Hd.o a12))
  · (try have zz : Hd True := a1); (try have zz : Hd True := a2); (try have zz : Hd True := a3); (try have zz : Hd True := a4); (try have zz : Hd True := a5); (try have zz : Hd True := a6); (try have zz : Hd True := a7); (try have zz : Hd True := a8); (try have zz : Hd True := a9); (try have zz : Hd True := a10); (try have zz : Hd True := a11); (try have zz : Hd True := a12)
    exact trivial) : Q := h ⟨⟩ p.1 p.2.1 p.2.2.1 p.2.2.2.1 p.2.2.2.2.1 p.2.2.2.2.2.1 p.2.2.2.2.2.2.1 p.2.2.2.2.2.2.2.1 p.2.2.2.2.2.2.2.2.1 p.2.2.2.2.2.2.2.2.2.1 p.2.2.2.2.2.2.2.2.2.2.1 p.2.2.2.2.2.2.2.2.2.2.2
theorem dlD (os : List Orc) {Q P1 P2 P3 P4 P5 P6 P7 P8 P9 P10 P11 P12 : Prop} (p : Hd P1 ∧ Hd P2 ∧ Hd P3 ∧ Hd P4 ∧ Hd P5 ∧ Hd P6 ∧ Hd P7 ∧ Hd P8 ∧ Hd P9 ∧ Hd P10 ∧ Hd P11 ∧ Hd P12)
    (h : Os os → Hd P1 → Hd P2 → Hd P3 → Hd P4 → Hd P5 → Hd P6 → Hd P7 → Hd P8 → Hd P9 → Hd P10 → Hd P11 → Hd P12 → Q := by
  intro oo a1 a2 a3 a4 a5 a6 a7 a8 a9 a10 a11 a12
  refine two ?_ ?_
  · (refine S_drwK kp oo rfl (by kernel_rfl) rfl (fun zK hK => ?_)); simp -dsimp -implicitDefEqProofs (disch := omega) only [go_sem, nq0, uU, eq_self, ↓reduceIte]; (repeat' (first | (refine And.intro ?_ ?_) | (refine gs_both (fun hb => ?_) (fun hb => ?_) <;> (have zg := hb; (try simp only [nfb] at zg); simp -dsimp -implicitDefEqProofs (disch := omega) only [go_sem, nq0, uU, hb, zg, eq_self, ↓reduceIte]; clear hb; (try simp only [nfe] at zg))))); (any_goals ((first | refine hK _ _ _ _ (drawKD kp) (fun hx => ?_) | refine hK _ _ _ _ drawE (fun hx => ?_)); clear hx hK; simp -dsimp -implicitDefEqProofs (disch := omega) only [go_sem, nq0, uU, eq_self, ↓reduceIte]; (try simp (disch := omega) only [wrap_i64, wrap_u64, wrap_u32, wrap_u8]))); (all_goals (try omega))
    all_goals (refine Hd.o ?_; (repeat revert zg); refine Hd.o ?_; (repeat revert zt); first | ((fail_if_success (fail_if_success (have zz : Hd Mk := a1))); exact Hd.o a1) | ((fail_if_success (fail_if_success (have zz : Hd Mk := a2))); exact Hd.o a2) | ((fail_if_success (fail_if_success (have zz : Hd Mk := a3))); exact Hd.o a3) | ((fail_if_success (fail_if_success (have zz : Hd Mk := a4))); exact Hd.o a4) | ((fail_if_success (fail_if_success (have zz : Hd Mk := a5))); exact Hd.o a5) | ((fail_if_success (fail_if_success (have zz : Hd Mk := a6))); exact Hd.o a6) | ((fail_if_success (fail_if_success (have zz : Hd Mk := a7))); exact Hd.o a7) | ((fail_if_success (fail_if_success (have zz : Hd Mk := a8))); exact Hd.o a8) | ((fail_if_success (fail_if_success (have zz : Hd Mk := a9))); exact Hd.o a9) | ((fail_if_success (fail_if_success (have zz : Hd Mk := a10))); exact Hd.o a10) | ((fail_if_success (fail_if_success (have zz : Hd Mk := a11))); exact Hd.o a11) | ((fail_if_success (fail_if_success (have zz : Hd Mk := a12))); exact Hd.o a12))
  · (try have zz : Hd True := a1); (try have zz : Hd True := a2); (try have zz : Hd True := a3); (try have zz : Hd True := a4); (try have zz : Hd True := a5); (try have zz : Hd True := a6); (try have zz : Hd True := a7); (try have zz : Hd True := a8); (try have zz : Hd True := a9); (try have zz : Hd True := a10); (try have zz : Hd True := a11); (try have zz : Hd True := a12)
    exact trivial) : Q := h ⟨⟩ p.1 p.2.1 p.2.2.1 p.2.2.2.1 p.2.2.2.2.1 p.2.2.2.2.2.1 p.2.2.2.2.2.2.1 p.2.2.2.2.2.2.2.1 p.2.2.2.2.2.2.2.2.1 p.2.2.2.2.2.2.2.2.2.1 p.2.2.2.2.2.2.2.2.2.2.1 p.2.2.2.2.2.2.2.2.2.2.2
theorem cRD {A B : Prop} (b : Hd (Hd B)) (h : Hd (Hd B) → A := by
  intro b1
  refine C_ret rfl ?_; simp -dsimp -implicitDefEqProofs (disch := omega) only [go_sem, nq0, uU, eq_self, ↓reduceIte]; refine ⟨_, rfl, ?_⟩
  exact Hd.o (Hd.o b1)) : A := h b
theorem rRD {A B : Prop} (b : Hd B) (h : Hd B → A := by
  intro b1
  refine two ?_ ?_
  · (simp -dsimp -implicitDefEqProofs (disch := omega) only [go_sem, nq0, uU, eq_self, ↓reduceIte]) <;> exact Hd.o (Hd.o b1)
  · (try have zz : Hd True := b1)
    exact trivial) : A := h b
end Go.AM
end
section
namespace Go.AM
open Go
def behind (Hc : Heap) (ρ : Names) (b : Nat) : Prop := ∃ id B s, AM.look Hc id = some B ∧ ρ id = some (b, s)
def Holds (Hc : Heap) (H : Owner) (A : Allow) : Prop := ∀ id B, AM.look Hc id = some B → ∃ A', H id = some (B, A') ∧ ∀ i, A' i → A i
def Bor (Γ : List (Nat × List AVal)) (Hc : Heap) (v v' : AVal) : Prop :=
  ∀ w G ρ H A cv, HRel Γ w G ρ H → Holds Hc H A → V w G ρ A v cv → V w (fun b => G b ∨ behind Hc ρ b) noNames noAllow v' cv
inductive BorL (Γ : List (Nat × List AVal)) (Hc : Heap) : List AVal → List AVal → Prop
  | nil : BorL Γ Hc [] []
  | cons {v v' vs vs'} : Bor Γ Hc v v' → BorL Γ Hc vs vs' → BorL Γ Hc (v :: vs) (v' :: vs')
theorem BorL.len {Γ : List (Nat × List AVal)} {Hc : Heap} {vs vs' : List AVal} (h : BorL Γ Hc vs vs') : vs.length = vs'.length := by
  induction h with
  | nil => rfl
  | cons _ _ ih => simp [ih]
theorem BorL.get {Γ : List (Nat × List AVal)} {Hc : Heap} {vs vs' : List AVal} (h : BorL Γ Hc vs vs') : ∀ (j : Nat) v', vs'[j]? = some v' → ∃ v, vs[j]? = some v ∧ Bor Γ Hc v v' := by
  induction h with
  | nil => intro j v' hj; simp at hj
  | cons h1 _ ih =>
    intro j v' hj
    cases j with
    | zero => simp only [List.getElem?_cons_zero, Option.some.injEq] at hj; subst hj; exact ⟨_, rfl, h1⟩
    | succ j => simp only [List.getElem?_cons_succ] at hj ⊢; exact ih j v' hj
theorem Bor.clean {Γ : List (Nat × List AVal)} {Hc : Heap} {v : AVal} (h : clean v = true) : Bor Γ Hc v v := fun w G ρ H A cv _ _ hv =>
  (clean_V hv h).mono (fun _ h => .inl h) (fun _ _ => rfl) (fun _ _ => rfl) (fun _ h => h) (fun _ h => h.elim)
def litv0 : AVal → Bool
  | .lit _ => true
  | .agg cs => cs.all fun v => match v with | .lit _ => true | _ => false
  | _ => false
def litv : AVal → Bool
  | .tup vs => vs.all litv0
  | v => litv0 v
theorem litv0_V {w w' : World} {G G' : Nat → Prop} {ρ ρ' : Names} {A A' : Allow} {v : AVal} {cv : Value} (h : V w G ρ A v cv) (hl : litv0 v = true) : V w' G' ρ' A' v cv := by
  cases v with
  | lit u => cases h; exact .lit
  | agg cs =>
    cases h with
    | agg h1 h2 =>
      refine .agg h1 fun j u hj => ?_
      have h3 := all_get hl hj
      have h4 := h2 j u hj
      cases u with
      | lit x => have e := V_bool h4; rw [e]; exact .lit
      | _ => cases h3
  | _ => cases hl
theorem litv_V {w w' : World} {G G' : Nat → Prop} {ρ ρ' : Names} {A A' : Allow} {v : AVal} {cv : Value} (h : V w G ρ A v cv) (hl : litv v = true) : V w' G' ρ' A' v cv := by
  cases v with
  | tup vs =>
    cases h with
    | tup h1 h2 => exact .tup h1 fun j u hj => litv0_V (h2 j u hj) (all_get hl hj)
  | _ => exact litv0_V h hl
section
variable {P : Program} {Γ : List (Nat × List AVal)} {o : Oper} {ev : Operand → Option AVal} {get : Nat → Option Blk} {k : Nat}
theorem ro_good {f : Operand} {args : Array Operand} {ty : Array TypeId} {g : FuncId} {vs vs' : List AVal} {Hc : Heap} {r : AVal}
    (ho : o.op = .call { callee := .value f, args := args, argTypes := ty }) (hg : callable P g = true) (hf : ev f = some (.fn g [])) (ha : evArgs ev args.toList = some vs)
    (hb : BorL Γ Hc vs vs') (hin : ∀ id B, AM.look Hc id = some B → get id = some B) (hr : litv r = true) (hp : Pure P Γ g vs' r) : Good P Γ o ev get k ⟨r, k, [], Hc.map (·.1)⟩ := by
  refine ⟨?_, fun id hid => by
    simp only [List.mem_map] at hid
    obtain ⟨x, hx, rfl⟩ := hid
    obtain ⟨y, hy⟩ := look_isSome hx
    rw [hin _ y hy]; rfl, Nat.le_refl _⟩
  intro w G ρ H A a hrl hA hfr hrd hop next Q hn
  have hvf := hop f (by simp [ho, Op.operands, Call.operands]) _ hf
  have hVs := args_Vs (a := a) (w := w) (G := G) (ρ := ρ) (A := A) ha fun x hx v hv => hop x (by simp [ho, Op.operands, Call.operands, hx]) v hv
  have hHc : Holds Hc H A := fun id B hB => by
    obtain ⟨B', A', h1, h2, h3⟩ := hrd id (by simp only [List.mem_map]; exact ⟨(id, B), look_mem hB, rfl⟩)
    rw [hin id B hB] at h1; cases h1
    exact ⟨A', h2, h3⟩
  obtain ⟨cs, hcv, hcs⟩ : ∃ cs, a.eval f = .func (.func g) #[] cs ∧ cs = #[] := by
    generalize a.eval f = cv at hvf
    cases hvf with
    | fn h1 h2 => exact ⟨_, rfl, Array.eq_empty_of_size_eq_zero (by simpa using h1.symm)⟩
  subst hcs
  have hlt : ∀ b, behind Hc ρ b → b < w.heap.size ∧ ¬ G b := fun b ⟨id, B, s, h1, h2⟩ => ⟨hrl.owned_lt ⟨id, s, h2⟩, hrl.owned_not_ro ⟨id, s, h2⟩⟩
  have hrel1 : HRel Γ w (fun b => G b ∨ behind Hc ρ b) noNames (ofHeap [] noAllow) :=
    ⟨fun _ _ => rfl, (fun id B A' hid => by simp [ofHeap, look] at hid), (fun i j b s t h => by cases h), fun b hb => hb.elim (hrl.ro b) (fun h => (hlt b h).1), (fun g' cells hg' => by
      obtain ⟨h1, h2, h3⟩ := hrl.glob g' cells hg'
      exact ⟨h1.mono (fun _ h => .inl h) (fun _ _ => rfl) (fun _ _ => rfl) (fun _ h => h) (fun _ h => h.elim), .inl h2, h3⟩)⟩
  have hVs1 : Vs w (fun b => G b ∨ behind Hc ρ b) noNames noAllow vs' (args.map a.eval) := ⟨by rw [← hb.len]; exact hVs.1, fun j v' hj => by
    obtain ⟨v, h1, h2⟩ := hb.get j v' hj
    exact h2 w G ρ H A _ hrl hHc (hVs.2 j v h1)⟩
  have hcall := hp k noAllow (fun i hi => hi.elim) w _ noNames (args.map a.eval) hrel1 hVs1
  unfold Oper.wp
  rw [run_call ho hg a #[] hcv w, Array.append_empty]
  refine hcall.mono fun e w' hq => ?_
  obtain ⟨cv, G', ρ', k', r', H', rfl, ⟨rfl, rfl, rfl⟩, _, hrel', hV', hst'⟩ := hq
  have hkeep : ∀ b, b < w.heap.size → w'.heap[b]? = w.heap[b]? := fun b hb => hst'.keep b hb (fun ⟨i, s, h⟩ => by cases h)
  have hst : Step (fun i => ¬ (k' ≤ i ∧ i < k')) w G ρ w' (fun b => G b ∨ (w.heap.size ≤ b ∧ G' b)) ρ :=
    ⟨hst'.size, fun b hb _ => hkeep b hb, hst'.shape, fun _ h => .inl h, fun b h => h.elim .inl (fun h => .inr (.inr h.1)), fun _ h => .inl h, fun _ _ => .inr rfl, hst'.os, hst'.tape, hst'.output⟩
  refine hn w' _ ρ cv ?_ (litv_V hV' hr) hst
  refine hrl.after hst H hrl.dom (fun id B A1 hid => ?_) hrl.inj (fun b hb => hb.elim (fun h => Nat.lt_of_lt_of_le (hrl.ro b h) hst'.size) (fun h => hrel'.ro b h.2))
  obtain ⟨h1, b, h2, h3, _⟩ := hrl.blk id B A1 hid
  have hbl := hrl.owned_lt ⟨id, _, h2⟩
  exact ⟨h1, .inl ⟨A1, b, hid, fun _ h => h, fun i _ hc => by omega, rfl, h2, hkeep b hbl, fun h => h.elim h3 (fun h => by omega)⟩⟩
theorem Bor.ptr {Hc : Heap} {id r : Nat} {B : Blk} {row : List AVal} {cells : List AVal} (hB : AM.look Hc id = some B) (hrow : B.rows[r]? = some row) (hl : cells.length = row.length) (h : ∀ (j : Nat) v v', row[j]? = some v → cells[j]? = some v' → Bor Γ Hc v v') : Bor Γ Hc (.ptr id r 0) (.rp cells) := fun w G ρ H A cv hr hh hv => by
  obtain ⟨A', hH, hAA⟩ := hh id B hB
  obtain ⟨_, b, hb, _, ⟨⟨C, ty, hC, hrows⟩, hlen⟩⟩ := hr.blk id B A' hH
  cases hv with
  | dang _ hn => rw [hb] at hn; cases hn
  | ptr ha hρ =>
    rw [hb] at hρ; cases hρ
    have key : ∀ (j : Nat) v', cells[j]? = some v' → ∃ v cu, row[j]? = some v ∧ C[r * B.sz + j]? = some cu ∧ V w G ρ A v cu := fun j v' hj => by
      have hlt := (List.getElem?_eq_some_iff.1 hj).1
      have hu : row[j]? = some row[j] := List.getElem?_eq_getElem (by omega)
      obtain ⟨cu, h3, h4⟩ := hrows r row j _ hrow hu
      refine ⟨_, cu, hu, h3, ?_⟩
      by_cases hp : B.pure = true
      · simp only [hp, if_true] at h4; exact h4.weaken
      · simp only [hp] at h4; exact h4.mono (fun _ h => h) (fun _ _ => rfl) (fun _ _ => rfl) hAA (fun _ _ => .inr rfl)
    refine .rp (fun j => C.getD (r * B.sz + j) undef) (.inr ⟨id, B, _, hB, hb⟩) (fun j v' hj => ?_) (fun j v' hj => ?_)
    · obtain ⟨v, cu, _, h3, _⟩ := key j v' hj
      rw [Nat.add_zero, cell_of_row w b _ C ty (0, 0) hC, h3, Array.getD_eq_getD_getElem?, h3]; rfl
    · obtain ⟨v, cu, h2, h3, h4⟩ := key j v' hj
      have e : C.getD (r * B.sz + j) undef = cu := by rw [Array.getD_eq_getD_getElem?, h3]; rfl
      rw [e]
      exact h j v v' h2 hj w G ρ H A cu hr hh h4
theorem Bor.sl {Hc : Heap} {id r n : Nat} {B : Blk} {F : Nat → List AVal} (hB : AM.look Hc id = some B) (hn : r + n ≤ B.rows.length) (hl : ∀ i, i < n → (F i).length = B.sz)
    (h : ∀ (i : Nat) row (j : Nat) v v', i < n → B.rows[r + i]? = some row → row[j]? = some v → (F i)[j]? = some v' → Bor Γ Hc v v') : Bor Γ Hc (.sl id r n) (.rd B.sz n F) := fun w G ρ H A cv hr hh hv => by
  obtain ⟨A', hH, hAA⟩ := hh id B hB
  obtain ⟨_, b, hb, _, ⟨⟨C, ty, hC, hrows⟩, hlen⟩⟩ := hr.blk id B A' hH
  cases hv with
  | dangs _ hn => rw [hb] at hn; cases hn
  | sl0 => exact .rd0
  | sl ha hρ hsh hm hn1 hc hoff =>
    rw [hb] at hρ; cases hρ
    rename_i cap off
    by_cases h0 : n = 0
    · subst h0; exact .rd0
    have hoff' : off = r * B.sz := hoff.resolve_left (by omega)
    subst hoff'
    have key : ∀ (i j : Nat) v', i < n → (F i)[j]? = some v' → ∃ row v cu, B.rows[r + i]? = some row ∧ row[j]? = some v ∧ C[(r + i) * B.sz + j]? = some cu ∧ V w G ρ A v cu := fun i j v' hi hj => by
      have hrow : B.rows[r + i]? = some B.rows[r + i] := List.getElem?_eq_getElem (by omega)
      have hlr := hlen _ _ hrow
      have hlt := (List.getElem?_eq_some_iff.1 hj).1
      rw [hl i hi] at hlt
      have hu : B.rows[r + i][j]? = some (B.rows[r + i][j]'(by omega)) := List.getElem?_eq_getElem (by omega)
      obtain ⟨cu, h3, h4⟩ := hrows (r + i) _ j _ hrow hu
      refine ⟨_, _, cu, hrow, hu, h3, ?_⟩
      by_cases hp : B.pure = true
      · simp only [hp, if_true] at h4; exact h4.weaken
      · simp only [hp] at h4; exact h4.mono (fun _ h => h) (fun _ _ => rfl) (fun _ _ => rfl) hAA (fun _ _ => .inr rfl)
    refine .rd (fun i j => C.getD ((r + i) * B.sz + j) undef) (.inr ⟨id, B, _, hB, hb⟩) hn1 (by omega) hl (fun i j v' hi hj => ?_) (fun i j v' hi hj => ?_)
    · obtain ⟨row, v, cu, _, _, h3, _⟩ := key i j v' hi hj
      have e : r * B.sz + i * B.sz + j = (r + i) * B.sz + j := by rw [Nat.add_mul]
      rw [e, cell_of_row w b _ C ty (0, 0) hC, h3, Array.getD_eq_getD_getElem?, h3]; rfl
    · obtain ⟨row, v, cu, h1, h2, h3, h4⟩ := key i j v' hi hj
      have e : C.getD ((r + i) * B.sz + j) undef = cu := by rw [Array.getD_eq_getD_getElem?, h3]; rfl
      rw [e]
      exact h i row j v v' hi h1 h2 hj w G ρ H A cu hr hh h4
end
end Go.AM
end
section
namespace Go.AM
open Go
def nub : List Nat → List Nat
  | [] => []
  | a :: r => if (nub r).contains a then nub r else a :: nub r
theorem mem_nub {x : Nat} : ∀ {l : List Nat}, x ∈ nub l ↔ x ∈ l
  | [] => Iff.rfl
  | a :: r => by
    have ih := mem_nub (x := x) (l := r)
    rw [nub]
    split
    · rename_i h
      rw [List.contains_iff_mem] at h
      rw [ih, List.mem_cons]
      constructor
      · exact .inr
      · rintro (rfl | h2)
        · exact mem_nub.1 h
        · exact h2
    · rw [List.mem_cons, List.mem_cons, ih]
theorem nub_same {g : Nat → Nat} {y : Nat} : ∀ {l : List Nat}, l ≠ [] → (∀ x, x ∈ l → g x = y) → nub (l.map g) = [y]
  | [], h, _ => absurd rfl h
  | [a], _, h => by simp [nub, h a]
  | a :: b :: r, _, h => by
    have ih := nub_same (g := g) (y := y) (l := b :: r) (by simp) (fun x hx => h x (List.mem_cons_of_mem _ hx))
    rw [List.map_cons, nub, ih, h a (List.mem_cons_self ..)]
    simp
def shN (g : Nat → Nat) (f : Foot) : List Nat × List Nat := (nub (f.rds.map g), f.mods.map g)
theorem meets_sub {a a' b b' : List Nat} (ha : ∀ x, x ∈ a → x ∈ a') (hb : ∀ x, x ∈ b → x ∈ b') (h : meets a' b' = false) : meets a b = false := by
  cases hm : meets a b with
  | false => rfl
  | true =>
    unfold meets at hm h
    obtain ⟨x, hx, hxb⟩ := List.any_eq_true.1 hm
    have : (a'.any fun y => b'.contains y) = true := List.any_eq_true.2 ⟨x, ha x hx, by
      rw [List.contains_iff_mem] at hxb ⊢
      exact hb x hxb⟩
    rw [this] at h; cases h
theorem clash_F {g : Nat → Nat} {ops : Array Oper} {oj oi : Oper} {fj fi : Foot} (h : clashN ops oj (shN g fj) oi (shN g fi) = false) : clash ops oj fj oi fi = false := by
  refine clash_N (g := g) ?_
  simp only [clashN, Bool.or_eq_false_iff, shN] at h
  simp only [clashN, Bool.or_eq_false_iff, shG]
  obtain ⟨⟨⟨⟨⟨h1, h2⟩, h3⟩, h4⟩, h5⟩, h6⟩ := h
  exact ⟨⟨⟨⟨⟨h1, h2⟩, h3⟩, meets_sub (fun _ h => h) (fun _ h => mem_nub.2 h) h4⟩, h5⟩, meets_sub (fun _ h => mem_nub.2 h) (fun _ h => h) h6⟩
theorem drawF {ops : Array Oper} {tr : List Foot} (g : Nat → Nat) {L : List (List Nat × List Nat)} (hL : tr.map (shN g) = L) (h : drawN ops L = true := by decide +kernel) (hm : (tr.all fun f => f.mods.all fun x => decide (x < f.k')) = true := by simp -dsimp -implicitDefEqProofs (disch := omega) only [go_sem, nq0, nq5, ltB_iff, List.map_append, eq_self, ↓reduceIte]) : drawOk ops tr = true := by
  subst hL
  simp only [drawN, List.all_eq_true] at h
  simp only [drawOk, List.all_eq_true]
  intro i hi
  have h1 := h i hi
  rw [List.getElem?_map] at h1
  cases ho : ops[i]? with
  | none => rw [ho] at h1; simp at h1
  | some oi =>
    cases ht : tr[i]? with
    | none => rw [ho, ht] at h1; simp at h1
    | some fi =>
      rw [ho, ht] at h1
      simp only [Option.map_some, Bool.and_eq_true, List.all_eq_true] at h1
      simp only [Bool.and_eq_true, List.all_eq_true]
      refine ⟨⟨h1.1, ?_⟩, fun j hj => ?_⟩
      · have := List.all_eq_true.1 hm fi (List.mem_of_getElem? ht)
        exact fun x hx => List.all_eq_true.1 this x hx
      · have h2 := h1.2 j hj
        rw [List.getElem?_map] at h2
        cases hoj : ops[j]? with
        | none => rw [hoj] at h2; simp at h2
        | some oj =>
          cases htj : tr[j]? with
          | none => rw [hoj, htj] at h2; simp at h2
          | some fj =>
            rw [hoj, htj] at h2
            simp only [Option.map_some, Bool.or_eq_true, Bool.not_eq_true'] at h2
            simp only [Bool.or_eq_true, Bool.not_eq_true']
            rcases h2 with h2 | h2
            · exact .inl (clash_F h2)
            · exact .inr h2
end Go.AM
end
