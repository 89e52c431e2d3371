import Derived.Test.YteimiejbhhgljaaGreatDoorZAG
import Derived.Maps.RangeRun
import Derived.Shelf.SortG.Plain
import Derived.Shelf.SortG.SortNone
import Derived.Ground.SlgnProg
import Derived.Test.YteimiejbhhgljaaGreatDoorProg
import Derived.Shelf.Strconv.Itoa3
import Derived.Shelf.Strconv.AtoiAll
import Derived.Shelf.Strings.Split
import Derived.Lib.ItoaNum
import Derived.Lib.ItoaMem
import Derived.Lib.AtoiAll
import Derived.Lib.Split
import Derived.Shelf.Strings.Cut
import Derived.Shelf.Strings.Search3
import Derived.Shelf.Pu.ParseUintPublic10
import Derived.KernelRfl
set_option linter.unusedVariables false
set_option linter.unusedSimpArgs false
section
namespace Go.AM
open Go
def iterB (mid since : Nat) (seen : List Nat) (c0 : Nat) : Blk :=
  ⟨3, false, [.lit (.int .i64 c0), .lit (.int .i64 seen.length), .lit (.int .i64 2)] :: [.mp mid, .lit (.int .i64 since), .lit (.int .i64 0)] :: seen.map fun (x : Nat) => [.lit (.int .i64 (x : Int)), .lit (.int .i64 0), .lit (.int .i64 0)]⟩
theorem iterL_at (m : Option Nat) (since : Nat) (seen : Array Nat) (c0 r c : Nat) (h : c < 3) : (iterL m since seen c0)[(r + 2) * 3 + c]? = (seen.toList[r]?).bind fun (x : Nat) => [Value.int .i64 (x : Int), .int .i64 0, .int .i64 0][c]? := by
  have e : (r + 2) * 3 + c = r * 3 + c + 1 + 1 + 1 + 1 + 1 + 1 := by omega
  rw [e]
  simp only [iterL, List.getElem?_cons_succ]
  exact flat3 (fun _ => rfl) _ r c h
theorem iter_at {w : World} {G : Nat → Prop} {ρ : Names} {A : Allow} {mid since c0 b bm s : Nat} {seen : List Nat} (h : BRel w G ρ A (iterB mid since seen c0) b) (hs : shp w b = some none) (hm : ρ mid = some (bm, s)) :
    w.heap[b]? = some (.mapIter (some bm) since seen.toArray c0) ∧ shp w bm = some none := by
  obtain ⟨⟨C, o, ⟨hC, hO⟩, hrows⟩, hlen⟩ := h
  have lit : ∀ r row c v, (iterB mid since seen c0).rows[r]? = some row → row[c]? = some (.lit v) → C[r * 3 + c]? = some v := fun r row c v h1 h2 => by
    obtain ⟨cv, h3, h4⟩ := hrows r row c _ h1 h2
    cases h4; exact h3
  have e0 := lit 0 _ 0 _ rfl rfl
  have e1 := lit 0 _ 1 _ rfl rfl
  have e2 := lit 0 _ 2 _ rfl rfl
  have e4 := lit 1 _ 1 _ rfl rfl
  obtain ⟨cm, hcm, hvm⟩ := hrows 1 _ 0 _ rfl rfl
  cases hO with
  | cells => simp [shp, hC] at hs
  | map => simp [mapL] at e2
  | @iter m since' seen' c0' =>
    have hcm2 : (iterL m since' seen' c0').toArray[3]? = some cm := hcm
    simp [iterL] at e0 e1 e4 hcm2
    have hvm' : V w G ρ A (.mp mid) cm := by simpa [iterB] using hvm
    subst hcm2
    have hc0 : c0' = c0 := by omega
    have hsi : since' = since := by omega
    have hln : seen'.size = seen.length := by omega
    subst hc0; subst hsi
    have hseen : seen' = seen.toArray := by
      refine Array.ext' (List.ext_getElem? fun r => ?_)
      by_cases hr : r < seen.length
      · have hrow : (iterB mid since' seen c0').rows[r + 2]? = some [.lit (.int .i64 ((seen[r] : Nat) : Int)), .lit (.int .i64 0), .lit (.int .i64 0)] := by
          simp [iterB, List.getElem?_eq_getElem hr]
        have a0 := lit (r + 2) _ 0 _ hrow rfl
        rw [List.getElem?_toArray, iterL_at _ _ _ _ _ _ (by omega)] at a0
        have hx : seen'.toList[r]? = some (seen'[r]'(by omega)) := by rw [Array.getElem?_toList, Array.getElem?_eq_getElem]
        rw [hx] at a0 ⊢
        simp at a0
        have : seen'[r]'(by omega) = seen[r] := by omega
        rw [this, List.getElem?_eq_getElem hr]
      · rw [List.getElem?_eq_none (by simp; omega), List.getElem?_eq_none (by simp; omega)]
    subst hseen
    cases hvm' with
    | dangm _ hn => rw [hm] at hn; cases hn
    | mp _ hρ hsm => rw [hm] at hρ; cases hρ; exact ⟨hC, hsm⟩
theorem iter_rel {w : World} {G : Nat → Prop} {ρ : Names} {A : Allow} {mid since c0 bm : Nat} {seen : List Nat} (hm : V w G ρ A (.mp mid) (.map (some bm))) :
    (∀ (r : Nat) row, (iterB mid since seen c0).rows[r]? = some row → row.length = (iterB mid since seen c0).sz) ∧
    ∀ r row c v, (iterB mid since seen c0).rows[r]? = some row → row[c]? = some v → ∃ cv, (iterL (some bm) since seen.toArray c0).toArray[r * (iterB mid since seen c0).sz + c]? = some cv ∧
      V w G (if (iterB mid since seen c0).pure then noNames else ρ) (if (iterB mid since seen c0).pure then noAllow else A) v cv := by
  constructor
  · intro r row h
    match r, h with
    | 0, h => cases h; rfl
    | 1, h => cases h; rfl
    | r + 2, h =>
      simp only [iterB, List.getElem?_cons_succ, List.getElem?_map, Option.map_eq_some_iff] at h
      obtain ⟨e, _, rfl⟩ := h
      rfl
  · intro r row c v h1 h2
    show ∃ cv, (iterL (some bm) since seen.toArray c0).toArray[r * 3 + c]? = some cv ∧ V w G ρ A v cv
    rw [List.getElem?_toArray]
    match r, h1 with
    | 0, h1 =>
      cases h1
      match c, h2 with
      | 0, h2 => cases h2; exact ⟨_, rfl, .lit⟩
      | 1, h2 => cases h2; exact ⟨_, by simp only [iterL, List.size_toArray]; rfl, .lit⟩
      | 2, h2 => cases h2; exact ⟨_, rfl, .lit⟩
      | c + 3, h2 => simp at h2
    | 1, h1 =>
      cases h1
      match c, h2 with
      | 0, h2 => cases h2; exact ⟨_, rfl, hm⟩
      | 1, h2 => cases h2; exact ⟨_, rfl, .lit⟩
      | 2, h2 => cases h2; exact ⟨_, rfl, .lit⟩
      | c + 3, h2 => simp at h2
    | r + 2, h1 =>
      have h4 : (seen.map fun (x : Nat) => [AVal.lit (.int .i64 (x : Int)), .lit (.int .i64 0), .lit (.int .i64 0)])[r]? = some row := h1
      rw [List.getElem?_map, Option.map_eq_some_iff] at h4
      obtain ⟨e, h5, rfl⟩ := h4
      have hc : c < 3 := by
        have := (List.getElem?_eq_some_iff.1 h2).1
        simpa using this
      rw [iterL_at _ _ _ _ _ _ hc]
      have h3 : seen.toArray.toList[r]? = some e := h5
      rw [h3]
      match c, h2 with
      | 0, h2 => cases h2; exact ⟨_, rfl, .lit⟩
      | 1, h2 => cases h2; exact ⟨_, rfl, .lit⟩
      | 2, h2 => cases h2; exact ⟨_, rfl, .lit⟩
      | c + 3, h2 => omega
section
variable {P : Program} {Γ : List (Nat × List AVal)} {o : Oper} {ev : Operand → Option AVal} {get : Nat → Option Blk} {k nt kb : Nat}
theorem range_good {t kt et mid : Nat} {q : IntKind} {z : Value} {m : Operand} {l : Ents} {clock : Nat} (ho : o.op = .range t m) (ht : MapT P t kt et q z) (hm : ev m = some (.mp mid)) (hB : get mid = some (mapB q l clock)) :
    Good P Γ o ev get k ⟨.it k, k + 1, [(k, some (iterB mid clock [] clock))], [mid]⟩ := by
  refine ⟨fun w G ρ H A a hr hA hfr hrd hop next Q hN => ?_, fun i hi => by simp at hi; rw [hi, hB]; rfl, Nat.le_succ _⟩
  obtain ⟨hρk, hf⟩ := hfr k (Nat.le_refl _) (Nat.lt_succ_self _)
  have hkA : ¬ A k := fun hk => Nat.lt_irrefl _ (hA k hk)
  have hvm := hop m (by simp [ho, Op.operands]) _ hm
  obtain ⟨B', A', h2, hH, hAA⟩ := hrd mid (by simp)
  rw [hB] at h2; cases h2
  obtain ⟨_, b, hb, _, hBR⟩ := hr.blk mid _ A' hH
  generalize hev : a.eval m = cv at hvm
  have hvm0 := hvm
  cases hvm with
  | dangm _ hn' => rw [hb] at hn'; cases hn'
  | mp ha hρ hsh =>
    rw [hb] at hρ; cases hρ
    obtain ⟨es, hes, hel⟩ := map_at hBR hsh
    have hrun : (execOp a.eval o).run P w = .ok (.value (.pointer (some ⟨w.heap.size, 0, none⟩))) (w.alloc (.mapIter (some b) clock #[] clock)) := by
      have := run_range_map w t kt et b es clock ht.t hes
      simp [execOp, ho, hev, this]
    have hrows := iter_rel (since := clock) (c0 := clock) (seen := []) hvm0
    have hrel := hr.allocO k hρk hf (iterB mid clock [] clock) _ (.mapIter (some b) clock #[] clock) .iter A (fun i => A i ∨ (k ≤ i ∧ i < k + 1)) hkA (fun _ h => .inl h) (.inr ⟨Nat.le_refl _, Nat.lt_succ_self _⟩) hrows.1 hrows.2 w rfl rfl rfl rfl
    have hst := step_alloc (w := w) (G := G) (ρ := ρ) k 3 (.mapIter (some b) clock #[] clock) w rfl rfl rfl rfl
    unfold Oper.wp
    rw [hrun]
    refine hN _ G _ _ hrel (.it (b := w.heap.size) (s := 3) (.inr ⟨Nat.le_refl _, Nat.lt_succ_self _⟩) (by simp [setN]; rfl) ?_) ⟨hst.size, hst.keep, hst.shape, hst.g, hst.g', hst.own, fun i hi => hst.ids i (fun he => hi (show k ≤ i ∧ i < k + 1 by omega)), hst.os, hst.tape, hst.output⟩
    show shp (w.alloc (.mapIter (some b) clock #[] clock)) w.heap.size = some none
    have h9 := heap_push_new w (.mapIter (some b) clock #[] clock)
    unfold shp
    rw [h9]; rfl
structure GoodN (P : Program) (Γ : List (Nat × List AVal)) (o : Oper) (ev : Operand → Option AVal) (get : Nat → Option Blk) (k : Nat) (rds : List Nat) (outs : Out → Prop) : Prop where
  ok : ∀ w G ρ H (A : Allow) (a : Act), HRel Γ w G ρ H → (∀ i, A i → i < k) → (∀ id, id ∈ rds → ∃ B A', get id = some B ∧ H id = some (B, A') ∧ ∀ i, A' i → A i) →
    (∀ x, x ∈ o.op.operands → ∀ v, ev x = some v → V w G ρ A v (a.eval x)) → ∀ (next : Act → World → Prop) (Q : Exit → Act → World → Prop),
      (∀ out, outs out → ∀ w' G' ρ' cv, HRel Γ w' G' ρ' (updO H (fun i => A i ∨ (k ≤ i ∧ i < k)) out.upd) → V w' G' ρ' (fun i => A i ∨ (k ≤ i ∧ i < k)) out.v cv →
        Step (fun i => ¬ (k ≤ i ∧ i < k)) w G ρ w' G' ρ' → next (a.put o.dst cv) w') → o.wp P a w next Q
  rds : ∀ id, id ∈ rds → (get id).isSome = true
  k : ∀ out, outs out → out.k = k
theorem W_regionN {fr : Fr} {H : Heap} {Q : AQ} {id : Nat} {ops : Array Oper} {r : List Oper} (hops : ops.toList = o :: r) (hd : dstOk nt ops = true) (hgd : o.guard = none) {rds : List Nat} {outs : Out → Prop}
    (hN : GoodN P Γ o (aeval Γ fr) (look H) k rds outs) (h : ∀ out, outs out → Run P Γ ops r k (putO fr o.dst out.v) (updH H out.upd) (fun _ k' fr' H' => kb ≤ k' → Q .normal k' fr' H')) : W P Γ nt kb (.region id ops false) Q k fr H := fun A0 hA0 hk w G ρ a hi => by
  refine wp_region ?_
  have hlen : ops.size = r.length + 1 := by rw [← Array.length_toList, hops]; rfl
  have ho : ops[0]? = some o := by rw [← Array.getElem?_toList, hops]; rfl
  have hdst := dstOk_spec hd ho
  have hlt := alw_lt (A0 := A0) hA0 hk
  rw [List.range_eq_range', hlen, List.range'_succ, wpOps_cons]
  unfold wpOp
  rw [ho]
  have hw : Region.wanted o (yielded ops a.tmps) = true := by unfold Region.wanted; rw [hgd]
  simp only [hw, if_true]
  left
  have hHof : ∀ id B A', ofHeap H (alw A0 kb k) id = some (B, A') → A' = alw A0 kb k := fun id B A' hH => by
    simp only [ofHeap, Option.map_eq_some_iff] at hH
    obtain ⟨B', _, he⟩ := hH
    cases he; rfl
  refine hN.ok w G ρ (ofHeap H (alw A0 kb k)) (alw A0 kb k) a hi.rel hlt (fun id hid => ?_) (fun x _ v hv => aeval_V hi hv) _ (Post Γ nt A0 kb w G ρ Q) (fun out hout w' G' ρ' cv hrel hv hst => ?_)
  · obtain ⟨B, hB⟩ := Option.isSome_iff_exists.1 (hN.rds id hid)
    exact ⟨B, alw A0 kb k, hB, by simp only [ofHeap, hB, Option.map_some], fun _ h => h⟩
  · have hst' : Step (below kb) w G ρ w' G' ρ' := ⟨hst.size, hst.keep, hst.shape, hst.g, hst.g', hst.own, fun j hj => hst.ids j (fun hc => by simp only [below] at hj; omega), hst.os, hst.tape, hst.output⟩
    rw [alw_or A0 kb k k hk (Nat.le_refl _)] at hrel hv
    refine run_wpOps (kb := kb) (Q' := Post Γ nt A0 kb w G ρ Q) hd hA0 r 1 (fun j => by rw [← Array.getElem?_toList, hops, Nat.add_comm]; rfl) k _ _ _ hk (h out hout) w' G' ρ' (a.put o.dst cv)
      ⟨?_, by rw [put_size]; exact hi.size, by rw [put_defers]; exact hi.defers, fun t v hv' => ?_⟩ hst' (fun tr k' fr' H' G' ρ' a' w' hK hk' hi' hs' => ⟨G', ρ', k', fr', H', hK hk', hk', hi', hs'⟩)
    · refine hrel.allow _ (fun id hid => ?_) (fun id B A' hid => ?_)
      · simp only [ofHeap, Option.map_eq_none_iff] at hid
        rw [look_updH] at hid
        rw [updO_modOf]
        split at hid
        · rename_i x hx; rw [hid]; rfl
        · rename_i hx; simp only [ofHeap, hid, Option.map_none]
      · simp only [ofHeap, Option.map_eq_some_iff] at hid
        obtain ⟨B', hB', he⟩ := hid
        cases he
        rw [look_updH] at hB'
        rw [updO_modOf]
        split at hB'
        · rename_i x hx; rw [hB']; exact ⟨alw A0 kb k, rfl, fun _ h => h⟩
        · rename_i hx; exact ⟨alw A0 kb k, by simp only [ofHeap, hB', Option.map_some], fun _ h => h⟩
    · rw [look_putO] at hv'
      rw [put_getD a o.dst cv t (fun x hx => by rw [hi.size]; exact hdst x hx)]
      split at hv'
      · rename_i he; cases hv'; rw [if_pos he]; exact hv
      · rename_i hne; rw [if_neg hne]
        exact (hi.frm t v hv').step hi.rel hst (fun j hj hc => by have := hlt j hj; omega) (fun _ h => h)
def toCome (l : Ents) (seen : List Nat) : Ents := l.filter fun e => !seen.contains e.2.2
theorem next_good {mid it since c0 clock : Nat} {q : IntKind} {x : Operand} {l : Ents} {seen : List Nat} (ho : o.op = .next x false) (hx : ev x = some (.it it)) (hI : get it = some (iterB mid since seen c0)) (hB : get mid = some (mapB q l clock))
    (hold : ∀ e ∈ l, e.2.2 < since) (hsc : since ≤ c0) :
    GoodN P Γ o ev get k [it, mid] (fun out => (toCome l seen = [] ∧ out = ⟨.tup [.lit (.bool false)], k, [], [it, mid]⟩) ∨
      ∃ e, e ∈ toCome l seen ∧ out = ⟨.tup [.lit (.bool true), .lit (.int q e.1), .lit e.2.1], k, [(it, some (iterB mid since (seen ++ [e.2.2]) clock))], [it, mid]⟩) := by
  refine ⟨fun w G ρ H A a hr hA hrd hop next Q hN => ?_, fun i hi => by
    simp at hi
    rcases hi with rfl | rfl
    · rw [hI]; rfl
    · rw [hB]; rfl, fun out h => by rcases h with ⟨_, rfl⟩ | ⟨_, _, rfl⟩ <;> rfl⟩
  have hvx := hop x (by simp [ho, Op.operands]) _ hx
  obtain ⟨B1, A1, h2, hH1, hAA1⟩ := hrd it (by simp)
  rw [hI] at h2; cases h2
  obtain ⟨B2, A2, h2, hH2, hAA2⟩ := hrd mid (by simp)
  rw [hB] at h2; cases h2
  obtain ⟨hA1, b, hb, _, hBR1⟩ := hr.blk it _ A1 hH1
  obtain ⟨hA2, bm, hbm, _, hBR2⟩ := hr.blk mid _ A2 hH2
  generalize hev : a.eval x = cv at hvx
  cases hvx with
  | dangi _ hn' => rw [hb] at hn'; cases hn'
  | it ha hρ hsh =>
    rw [hb] at hρ; cases hρ
    obtain ⟨hit, hshm⟩ := iter_at hBR1 hsh hbm
    obtain ⟨es, hes, hel⟩ := map_at hBR2 hshm
    have hne : b ≠ bm := fun h => by rw [h, hes] at hit; cases hit
    have hmem : ∀ y, y ∈ es.toList ↔ ∃ e ∈ l, entV q e = y := fun y => by rw [hel]; simp
    have hfil : (leftOf es seen.toArray).toList = (toCome l seen).map (entV q) := by
      unfold leftOf toCome
      rw [Array.toList_filter, hel, List.filter_map]
      congr 1
      apply List.filter_congr
      intro e _
      simp [entV, Function.comp]
    have hupd0 : updO H (fun i => A i ∨ (k ≤ i ∧ i < k)) [] = H := rfl
    have hAk : ∀ i, A i → (A i ∨ (k ≤ i ∧ i < k)) := fun _ h => .inl h
    rcases run_next_at (P := P) w o.type b bm since c0 seen.toArray es clock hit hes (fun y hy => by obtain ⟨e, he, rfl⟩ := (hmem y).1 hy; exact hold e he) hsc with ⟨h0, hrun⟩ | ⟨e', he', w1, hal, hrun⟩
    · have hnil : toCome l seen = [] := by
        have h3 : (leftOf es seen.toArray).toList.length = 0 := by simpa using h0
        rw [hfil, List.length_map] at h3
        exact List.length_eq_zero_iff.1 h3
      unfold Oper.wp
      have hrun' : (execOp a.eval o).run P w = .ok (.value (.tuple #[.bool false])) w := by simp [execOp, ho, hev, hrun]
      rw [hrun']
      refine hN _ (.inl ⟨hnil, rfl⟩) w G ρ _ ?_ (.tup rfl fun j v hj => ?_) (Step.refl _ _ _ _)
      · exact hr
      · match j, hj with
        | 0, hj => cases hj; exact .lit
        | j + 1, hj => simp at hj
    · rw [hfil] at he'
      obtain ⟨e, he, rfl⟩ := List.mem_map.1 he'
      have hw1 : w1.heap = w.heap ∧ w1.os = w.os ∧ w1.tape = w.tape ∧ w1.output = w.output := by rcases hal with rfl | rfl <;> exact ⟨rfl, rfl, rfl, rfl⟩
      unfold Oper.wp
      have hrun' : (execOp a.eval o).run P w = .ok (.value (.tuple #[.bool true, (entV q e).key, (entV q e).val])) (ChangeMaps.setBlock w1 b (.mapIter (some bm) since (seen.toArray.push (entV q e).born) clock)) := by simp [execOp, ho, hev, hrun]
      rw [hrun']
      have hbl : b < w.heap.size := (Array.getElem?_eq_some_iff.1 hit).1
      have hheap : (ChangeMaps.setBlock w1 b (.mapIter (some bm) since (seen.toArray.push (entV q e).born) clock)).heap = w.heap.setIfInBounds b (.mapIter (some bm) since (seen.toArray.push (entV q e).born) clock) := by
        simp [ChangeMaps.setBlock, hw1.1]
      generalize hw' : ChangeMaps.setBlock w1 b (.mapIter (some bm) since (seen.toArray.push (entV q e).born) clock) = w' at hheap
      have hos : w'.os = w.os ∧ w'.tape = w.tape ∧ w'.output = w.output := by rw [← hw']; exact hw1.2
      have hnew : w'.heap[b]? = some (.mapIter (some bm) since (seen ++ [e.2.2]).toArray clock) := by
        rw [hheap]; simp [hbl, entV]
      have hoth : ∀ j, j ≠ b → w'.heap[j]? = w.heap[j]? := fun j hj => by rw [hheap, Array.getElem?_setIfInBounds_ne (Ne.symm hj)]
      have hvm : V w G ρ A (.mp mid) (.map (some bm)) := .mp (hAA2 _ hA2) hbm hshm
      have hrows := iter_rel (since := since) (c0 := clock) (seen := seen ++ [e.2.2]) hvm
      obtain ⟨g1, g2⟩ := hr.rewriteO (B := iterB mid since seen c0) hb it (.inl rfl) (iterB mid since (seen ++ [e.2.2]) clock) rfl _ (.mapIter (some bm) since (seen ++ [e.2.2]).toArray clock) .iter A (fun i => A i ∨ (k ≤ i ∧ i < k)) (.inl rfl) hAk (.inl (hAA1 _ hA1))
        w' hnew hoth (by rw [hheap]; simp) (by simp [shp, hnew, hit]) hos.1 hos.2.1 hos.2.2 hrows.1 hrows.2
      have hnm : setN (setN ρ it none) it (some (b, 3)) = ρ := funext fun i => by
        simp only [setN]; split
        · rename_i h9; rw [h9, hb]; rfl
        · rfl
      rw [show (iterB mid since seen c0).sz = 3 from rfl, hnm] at g1 g2
      have hup : updO H (fun i => A i ∨ (k ≤ i ∧ i < k)) [(it, some (iterB mid since (seen ++ [e.2.2]) clock)), (it, none)] = updO H (fun i => A i ∨ (k ≤ i ∧ i < k)) [(it, some (iterB mid since (seen ++ [e.2.2]) clock))] := funext fun i => by
        simp only [updO]; split <;> simp_all
      rw [hup] at g1
      refine hN _ (.inr ⟨e, he, rfl⟩) w' G ρ _ g1 (.tup rfl fun j v hj => ?_) ⟨g2.size, g2.keep, g2.shape, g2.g, g2.g', g2.own, fun i _ => g2.ids i (Or.inr rfl), g2.os, g2.tape, g2.output⟩
      match j, hj with
      | 0, hj => cases hj; exact .lit
      | 1, hj => cases hj; exact .lit
      | 2, hj => cases hj; exact .lit
      | j + 3, hj => simp at hj
theorem entry_good {mid it since clock : Nat} {q : IntKind} {x : Operand} {l : Ents} {seen : List Nat} {e : Int × Value × Nat} (ho : o.op = .entry x) (hx : ev x = some (.it it)) (hI : get it = some (iterB mid since (seen ++ [e.2.2]) clock))
    (hB : get mid = some (mapB q l clock)) (he : e ∈ l) (hn : (l.map (·.2.2)).Nodup) : Good P Γ o ev get k ⟨.tup [.lit (.int q e.1), .lit e.2.1], k, [], [it, mid]⟩ := by
  refine ⟨OpOk_quiet fun w G ρ H A a hr hrd hop => ?_, fun i hi => by
    simp at hi
    rcases hi with rfl | rfl
    · rw [hI]; rfl
    · rw [hB]; rfl, Nat.le_refl _⟩
  have hvx := hop x (by simp [ho, Op.operands]) _ hx
  obtain ⟨B1, A1, h2, hH1, _⟩ := hrd it (by simp)
  rw [hI] at h2; cases h2
  obtain ⟨B2, A2, h2, hH2, _⟩ := hrd mid (by simp)
  rw [hB] at h2; cases h2
  obtain ⟨_, b, hb, _, hBR1⟩ := hr.blk it _ A1 hH1
  obtain ⟨_, bm, hbm, _, hBR2⟩ := hr.blk mid _ A2 hH2
  generalize hev : a.eval x = cv at hvx
  cases hvx with
  | dangi _ hn' => rw [hb] at hn'; cases hn'
  | it ha hρ hsh =>
    rw [hb] at hρ; cases hρ
    obtain ⟨hit, hshm⟩ := iter_at hBR1 hsh hbm
    obtain ⟨es, hes, hel⟩ := map_at hBR2 hshm
    have hrun := run_entry_at (P := P) w b bm since seen.toArray es clock (entV q e) (by rw [hit]; simp [entV]) hes (by rw [hel]; exact List.mem_map.2 ⟨e, he, rfl⟩) (by rw [hel, List.map_map]; exact hn)
    refine ⟨.tuple #[.int q e.1, e.2.1], by simp [execOp, ho, hev, hrun, entV], .tup rfl fun j v hj => ?_⟩
    match j, hj with
    | 0, hj => cases hj; exact .lit
    | 1, hj => cases hj; exact .lit
    | j + 2, hj => simp at hj
end
end Go.AM
end
section
namespace Go.Proofs.T
open Go Go.AM Go.Proofs
set_option maxRecDepth 20000
variable {Γ : List (Nat × List AVal)}
structure DelR where
  (n0 n1 n2 n3 n4 n5 : Nat)
  (f0 f1 f2 f3 f4 f5 : Nat → List AVal)
def DelR.cells (d : DelR) : List AVal := [.rd 2 d.n0 d.f0, .rd 2 d.n1 d.f1, .rd 2 d.n2 d.f2, .rd 1 d.n3 d.f3, .rd 8 d.n4 d.f4, .rd 5 d.n5 d.f5]
def DelR.size (d : DelR) : Nat := d.n0 + d.n1 + d.n2 + d.n3 + d.n4 + d.n5
attribute [go_sem] DelR.cells
theorem dsize (d : DelR) (h : d.size < 9223372036854775808) : AM.Pure Tryz.prog Γ 26 [.agg d.cells] (.lit (.int .i64 (d.size : Int))) := by
  have h' : d.n0 + d.n1 + d.n2 + d.n3 + d.n4 + d.n5 < 9223372036854775808 := h
  refine Pure_at Tryz.func26 rfl 26 rfl (Nat.le_of_ble_eq_true rfl) rfl fun k => ?_
  have kp : Kp [0,1,2] (fun i => i - k) := kpI
  refine wl ?_ <;> and_intros <;> first | exact hdT | (apply zM; (repeat intro ht); apply zM; (repeat intro hg); apply zM)
  have uU := Go.AM.uU; refine cR ?_; apply zN
  have e : (d.n0 + d.n1 + d.n2 + d.n3 + d.n4 + d.n5 : Int) = (d.size : Int) := by unfold DelR.size; omega
  rw [e]
  exact VLe.refl _
end Go.Proofs.T
end
section
namespace Go.Proofs.T
open Go Go.AM Go.Proofs
set_option maxRecDepth 20000
variable {Γ : List (Nat × List AVal)}
structure Dl where
  ck : List (Int × Int)
  cu : List (Int × Int)
  wg : List (Int × Int)
  gn : List Int
  tk : List Tk
  sp : List (Int × Int × Sp)
def vlR (x : Int × Int) : List AVal := [.lit (.int .i64 x.1), .lit (.int .i64 x.2)]
def nR (n : Int) : List AVal := [.lit (.int .i64 n)]
def tR (t : Tk) : List AVal := [.lit (.int .i64 t.id), .lit (.int .i64 t.group), .lit (.int .i64 t.weight), .lit (.int .i64 t.cpu), .lit (.int .u64 t.mask), .lit (.bool t.ready), .lit (.int .u64 t.v), .lit (.int .u32 t.r)]
def pR (x : Int × Int × Sp) : List AVal := [.lit (.int .i64 x.1), .lit (.int .i64 x.2.1), .lit (.int .u64 x.2.2.v), .lit (.int .u32 x.2.2.r), .lit (.int .u64 x.2.2.floor)]
def Dl.cells (d : Dl) : List AVal := [rows 2 (d.ck.map vlR), rows 2 (d.cu.map vlR), rows 2 (d.wg.map vlR), rows 1 (d.gn.map nR), rows 8 (d.tk.map tR), rows 5 (d.sp.map pR)]
end Go.Proofs.T
end
section
namespace Go.AM
open Go
structure Xt where
  op : Oper → (Operand → Option AVal) → (Nat → Option Blk) → Nat → Option Out
  nx : Oper → (Operand → Option AVal) → (Nat → Option Blk) → Nat → Option Out
  tab : FuncId → Nat → List AVal → Heap → Option (Nat × AVal × Heap)
structure XtOk (P : Program) (Γ : List (Nat × List AVal)) (x : Xt) : Prop where
  op : ∀ o ev get k out, x.op o ev get k = some out → Good P Γ o ev get k out
  nx : ∀ o ev get k out, x.nx o ev get k = some out → ∃ rds, GoodN P Γ o ev get k rds (fun out' => out' = out)
  tab : ∀ f k args H k' v H', x.tab f k args H = some (k', v, H') → Tr P Γ f k args H (fun k1 r1 H1 => k1 = k' ∧ r1 = v ∧ H1 = H')
def evOpsX (x : Xt) (e : Ev) (P : Program) (Γ : List (Nat × List AVal)) (all : Array Oper) : List Oper → Nat → Fr → Heap → Option (List Foot × Nat × Fr × Heap)
  | [], k, fr, H => some ([], k, fr, H)
  | o :: r, k, fr, H => match guardOf all fr o with
    | none => none
    | some false => match evOpsX x e P Γ all r k (putO fr o.dst (.lit undef)) H with
      | none => none
      | some (tr, y) => some (⟨[], [], k, k⟩ :: tr, y)
    | some true => match (match isCall o with | true => evCall e P o (aeval Γ fr) H k | false => match x.op o (aeval Γ fr) (look H) k with | some out => some out | none => aop P Γ o (aeval Γ fr) (look H) k) with
      | none => none
      | some out => match evOpsX x e P Γ all r out.k (putO fr o.dst out.v) (updH H out.upd) with
        | none => none
        | some (tr, y) => some (⟨out.rds, out.upd.map (·.1), k, out.k⟩ :: tr, y)
def nxOf (x : Xt) (Γ : List (Nat × List AVal)) (ops : Array Oper) (d : Bool) (k : Nat) (fr : Fr) (H : Heap) : Option (Oper × List Oper × Out) :=
  match d, ops.toList with
  | false, o :: r => match o.guard, x.nx o (aeval Γ fr) (look H) k with
    | none, some out => some (o, r, out)
    | _, _ => none
  | _, _ => none
def evCodeX (x : Xt) (e : Ev) (P : Program) (Γ : List (Nat × List AVal)) (nt : Nat) : Code → Nat → Fr → Heap → Option (Exit × Nat × Fr × Heap)
  | .skip, k, fr, H => some (.normal, k, fr, H)
  | .ret, k, fr, H => some (.ret, k, fr, H)
  | .exit id, k, fr, H => some (.exit id, k, fr, H)
  | .seq a b, k, fr, H => match evCodeX x e P Γ nt a k fr H with
    | some (.normal, k1, fr1, H1) => evCodeX x e P Γ nt b k1 fr1 H1
    | r => r
  | .cond c a b, k, fr, H => match aeval Γ fr c with
    | some (.lit (.bool true)) => evCodeX x e P Γ nt a k fr H
    | some (.lit (.bool false)) => evCodeX x e P Γ nt b k fr H
    | _ => none
  | .block id c, k, fr, H => match evCodeX x e P Γ nt c k fr H with
    | some (.exit id', k1, fr1, H1) => match Nat.beq id' id with
      | true => some (.normal, k1, fr1, H1)
      | false => some (.exit id', k1, fr1, H1)
    | r => r
  | .loop c, k, fr, H => match evCodeX x e P Γ nt c k fr H with
    | some (.normal, k1, fr1, H1) => e.loop nt c k1 fr1 H1
    | r => r
  | .region _ ops d, k, fr, H => match dstOk nt ops with
    | false => none
    | true => match nxOf x Γ ops d k fr H with
      | some (o, r, out) => match evOpsX x e P Γ ops r k (putO fr o.dst out.v) (updH H out.upd) with
        | none => none
        | some (_, k1, fr1, H1) => some (.normal, k1, fr1, H1)
      | none => match evOpsX x e P Γ ops ops.toList k fr H with
        | none => none
        | some (tr, k1, fr1, H1) => match (!d) || (P.follows .mixedOrders && drawOk ops tr) with
          | true => some (.normal, k1, fr1, H1)
          | false => none
  | _, _, _, _ => none
def evFuncX (x : Xt) (e : Ev) (P : Program) (Γ : List (Nat × List AVal)) (f : FuncId) (k : Nat) (args : List AVal) (H : Heap) : Option (Nat × AVal × Heap) :=
  match x.tab f k args H with
  | some r => some r
  | none => match P.funcs[f]? with
    | none => none
    | some fn => match fn.body with
      | none => none
      | some c => match Nat.ble args.length fn.ntmps with
        | false => none
        | true => match evCodeX x e P Γ fn.ntmps c k (argFr 0 args) H with
          | some (.normal, k1, fr1, H1) => match resA P fn fr1 H1 with
            | some r => some (k1, r, subH (reach H1 100000 (nm2 r ++ lowN k H1) []) H1)
            | none => none
          | some (.ret, k1, fr1, H1) => match resA P fn fr1 H1 with
            | some r => some (k1, r, subH (reach H1 100000 (nm2 r ++ lowN k H1) []) H1)
            | none => none
          | _ => none
def evLoopX (x : Xt) (e : Ev) (P : Program) (Γ : List (Nat × List AVal)) (nt : Nat) (c : Code) (k : Nat) (fr : Fr) (H : Heap) : Option (Exit × Nat × Fr × Heap) :=
  match evCodeX x e P Γ nt c k fr H with
  | some (.normal, k1, fr1, H1) => e.loop nt c k1 fr1 H1
  | r => r
def evX (x : Xt) (P : Program) (Γ : List (Nat × List AVal)) : Nat → Ev
  | 0 => ⟨fun _ _ _ _ => none, fun _ _ _ _ _ => none⟩
  | n + 1 => ⟨fun f k args H => evFuncX x (evX x P Γ n) P Γ f k args H, fun nt c k fr H => evLoopX x (evX x P Γ n) P Γ nt c k fr H⟩
section
variable {P : Program} {Γ : List (Nat × List AVal)} {nt kb : Nat} {k : Nat} {fr : Fr} {H : Heap} {e : Ev} {x : Xt}
theorem evOpsX_run (hx : XtOk P Γ x) (he : EvOk P Γ e) {all : Array Oper} : ∀ (l : List Oper) (k : Nat) (fr : Fr) (H : Heap) (tr : List Foot) (k' : Nat) (fr' : Fr) (H' : Heap) (K : List Foot → Nat → Fr → Heap → Prop), evOpsX x e P Γ all l k fr H = some (tr, k', fr', H') → K tr k' fr' H' → Run P Γ all l k fr H K := by
  intro l
  induction l with
  | nil => intro k fr H tr k' fr' H' K h hK; simp only [evOpsX] at h; cases h; exact hK
  | cons o r ih =>
    intro k fr H tr k' fr' H' K h hK
    simp only [evOpsX] at h
    split at h
    · cases h
    · rename_i hg
      split at h
      · cases h
      · rename_i tr1 y hy
        obtain ⟨k1, fr1, H1⟩ := y
        cases h
        exact .inl ⟨hg, ih _ _ _ _ _ _ _ _ hy hK⟩
    · rename_i hg
      split at h
      · cases h
      · rename_i out ho
        split at h
        · cases h
        · rename_i tr1 y hy
          obtain ⟨k1, fr1, H1⟩ := y
          cases h
          refine .inr ⟨hg, out, ?_, ih _ _ _ _ _ _ _ _ hy hK⟩
          split at ho
          · exact evCall_good he ho
          · split at ho
            · rename_i ho'
              cases ho
              exact hx.op _ _ _ _ _ ho'
            · exact aop_good ho
theorem nxOf_spec {ops : Array Oper} {d : Bool} {o : Oper} {r : List Oper} {out : Out} (h : nxOf x Γ ops d k fr H = some (o, r, out)) : d = false ∧ ops.toList = o :: r ∧ o.guard = none ∧ x.nx o (aeval Γ fr) (look H) k = some out := by
  unfold nxOf at h
  split at h
  · rename_i o' r' hl
    split at h
    · rename_i h1 h2; cases h; exact ⟨rfl, hl, h1, h2⟩
    · cases h
  · cases h
theorem evCodeX_ok (hX : XtOk P Γ x) (he : EvOk P Γ e) : ∀ (c : Code) (k : Nat) (fr : Fr) (H : Heap) (ex : Exit) (k' : Nat) (fr' : Fr) (H' : Heap), evCodeX x e P Γ nt c k fr H = some (ex, k', fr', H') → W P Γ nt kb c (isQ ex k' fr' H') k fr H := by
  intro c
  induction c with
  | skip => intro k fr H ex k' fr' H' h; simp only [evCodeX] at h; cases h; exact W_skip ⟨rfl, rfl, rfl, rfl⟩
  | ret => intro k fr H ex k' fr' H' h; simp only [evCodeX] at h; cases h; exact W_ret ⟨rfl, rfl, rfl, rfl⟩
  | exit id => intro k fr H ex k' fr' H' h; simp only [evCodeX] at h; cases h; exact W_exit ⟨rfl, rfl, rfl, rfl⟩
  | seq a b iha ihb =>
    intro k fr H ex k' fr' H' h
    simp only [evCodeX] at h
    cases hx : evCodeX x e P Γ nt a k fr H with
    | none => rw [hx] at h; cases h
    | some r =>
      obtain ⟨e1, k1, fr1, H1⟩ := r
      rw [hx] at h
      refine W_seq (W_mono (iha _ _ _ _ _ _ _ hx) ?_)
      rintro e2 k2 fr2 H2 ⟨rfl, rfl, rfl, rfl⟩
      cases e2 with
      | normal => exact ihb _ _ _ _ _ _ _ h
      | _ => cases h; exact ⟨rfl, rfl, rfl, rfl⟩
  | cond c a b iha ihb =>
    intro k fr H ex k' fr' H' h
    simp only [evCodeX] at h
    split at h
    · rename_i hc; exact W_cond true hc (fun _ => iha _ _ _ _ _ _ _ h) (fun hh => by cases hh)
    · rename_i hc; exact W_cond false hc (fun hh => by cases hh) (fun _ => ihb _ _ _ _ _ _ _ h)
    · cases h
  | block id c ih =>
    intro k fr H ex k' fr' H' h
    simp only [evCodeX] at h
    cases hx : evCodeX x e P Γ nt c k fr H with
    | none => rw [hx] at h; cases h
    | some r =>
      obtain ⟨e1, k1, fr1, H1⟩ := r
      rw [hx] at h
      refine W_block (W_mono (ih _ _ _ _ _ _ _ hx) ?_)
      rintro e2 k2 fr2 H2 ⟨rfl, rfl, rfl, rfl⟩
      cases e2 with
      | exit id' =>
        simp only [blockQ]
        by_cases hid : id' = id
        · subst hid
          simp only [Nat.beq_refl] at h
          cases h
          rw [if_pos rfl]; exact ⟨rfl, rfl, rfl, rfl⟩
        · have hb : Nat.beq id' id = false := by rw [Bool.eq_false_iff]; exact fun hb => hid (Nat.eq_of_beq_eq_true hb)
          simp only [hb] at h
          cases h
          rw [if_neg hid]; exact ⟨rfl, rfl, rfl, rfl⟩
      | _ => cases h; exact ⟨rfl, rfl, rfl, rfl⟩
  | loop c ih =>
    intro k fr H ex k' fr' H' h
    simp only [evCodeX] at h
    cases hx : evCodeX x e P Γ nt c k fr H with
    | none => rw [hx] at h; cases h
    | some r =>
      obtain ⟨e1, k1, fr1, H1⟩ := r
      rw [hx] at h
      cases e1 with
      | normal =>
        obtain ⟨n, hn⟩ := he.loop _ _ _ _ _ _ _ _ _ h kb
        refine W_rounds (n + 1) (W_mono (ih _ _ _ _ _ _ _ hx) ?_)
        rintro e2 k2 fr2 H2 ⟨rfl, rfl, rfl, rfl⟩
        exact hn
      | _ =>
        cases h
        refine W_rounds 1 (W_mono (ih _ _ _ _ _ _ _ hx) ?_)
        rintro e2 k2 fr2 H2 ⟨rfl, rfl, rfl, rfl⟩
        exact ⟨rfl, rfl, rfl, rfl⟩
  | region id ops d =>
    intro k fr H ex k' fr' H' h
    simp only [evCodeX] at h
    split at h
    · cases h
    · rename_i hd
      split at h
      · rename_i o r out hnx
        obtain ⟨rfl, h1, h2, h3⟩ := nxOf_spec hnx
        obtain ⟨rds, h4⟩ := hX.nx _ _ _ _ _ h3
        split at h
        · cases h
        · rename_i tr k1 fr1 H1 hx
          cases h
          refine W_regionN h1 hd h2 h4 fun out' ho' => ?_
          subst ho'
          exact evOpsX_run hX he _ _ _ _ _ _ _ _ _ hx (fun _ => ⟨rfl, rfl, rfl, rfl⟩)
      · split at h
        · cases h
        · rename_i tr k1 fr1 H1 hx
          split at h
          · rename_i hdr
            cases h
            cases d with
            | false => exact W_region hd (evOpsX_run hX he _ _ _ _ _ _ _ _ _ hx (fun _ => ⟨rfl, rfl, rfl, rfl⟩))
            | true =>
              simp only [Bool.not_true, Bool.false_or, Bool.and_eq_true] at hdr
              exact W_draw hdr.1 hd (evOpsX_run hX he _ _ _ _ _ _ _ _ _ hx ⟨hdr.2, fun _ => ⟨rfl, rfl, rfl, rfl⟩⟩)
          · cases h
  | _ => intro k fr H ex k' fr' H' h; simp [evCodeX] at h
theorem evLoopX_ok (hX : XtOk P Γ x) (he : EvOk P Γ e) {c : Code} {ex : Exit} {k' : Nat} {fr' : Fr} {H' : Heap} (h : evLoopX x e P Γ nt c k fr H = some (ex, k', fr', H')) : ∃ n, roundsW P Γ nt kb c (isQ ex k' fr' H') n k fr H := by
  unfold evLoopX at h
  cases hx : evCodeX x e P Γ nt c k fr H with
  | none => rw [hx] at h; cases h
  | some r =>
    obtain ⟨e1, k1, fr1, H1⟩ := r
    rw [hx] at h
    cases e1 with
    | normal =>
      obtain ⟨n, hn⟩ := he.loop _ _ _ _ _ _ _ _ _ h kb
      refine ⟨n + 1, W_mono (evCodeX_ok hX he c _ _ _ _ _ _ _ hx) ?_⟩
      rintro e2 k2 fr2 H2 ⟨rfl, rfl, rfl, rfl⟩
      exact hn
    | _ =>
      cases h
      refine ⟨1, W_mono (evCodeX_ok hX he c _ _ _ _ _ _ _ hx) ?_⟩
      rintro e2 k2 fr2 H2 ⟨rfl, rfl, rfl, rfl⟩
      exact ⟨rfl, rfl, rfl, rfl⟩
theorem evFuncX_ok (hX : XtOk P Γ x) (he : EvOk P Γ e) {f : FuncId} {args : List AVal} {k' : Nat} {v : AVal} {H' : Heap} (h : evFuncX x e P Γ f k args H = some (k', v, H')) : Tr P Γ f k args H (fun k1 r1 H1 => k1 = k' ∧ r1 = v ∧ H1 = H') := by
  unfold evFuncX at h
  split at h
  · rename_i r hr
    cases h
    exact hX.tab _ _ _ _ _ _ _ hr
  split at h
  · cases h
  · rename_i fn hfn
    split at h
    · cases h
    · rename_i c hc
      split at h
      · cases h
      · rename_i hn
        have main : ∀ ex k1 fr1 H1 r, (ex = .normal ∨ ex = .ret) → evCodeX x e P Γ fn.ntmps c k (argFr 0 args) H = some (ex, k1, fr1, H1) → resA P fn fr1 H1 = some r →
            some (k1, r, subH (reach H1 100000 (nm2 r ++ lowN k H1) []) H1) = some (k', v, H') → Tr P Γ f k args H (fun k1 r1 H1 => k1 = k' ∧ r1 = v ∧ H1 = H') := by
          intro ex k1 fr1 H1 r hex hev hr hq
          cases hq
          refine (Tr_body (Q := fun k2 r2 H2 => k2 = k' ∧ r2 = v ∧ H2 = H1) hfn hc (Nat.le_of_ble_eq_true hn) (W_mono (evCodeX_ok hX he c _ _ _ _ _ _ _ hev) ?_)).weaken ?_
          · rintro e2 k2 fr2 H2 ⟨rfl, rfl, rfl, rfl⟩
            rcases hex with rfl | rfl
            · exact ⟨_, hr, rfl, rfl, rfl⟩
            · exact ⟨_, hr, rfl, rfl, rfl⟩
          · rintro k2 r2 H2 hk ⟨rfl, rfl, rfl⟩
            exact ⟨_, _, _, hk, VLe.refl _, fun id B hB => ⟨B, look_subH _ _ _ _ hB, BLe.refl B⟩, .inl rfl, rfl, rfl, rfl⟩
        split at h
        · rename_i k1 fr1 H1 hev
          split at h
          · rename_i r hr; exact main _ _ _ _ _ (.inl rfl) hev hr h
          · cases h
        · rename_i k1 fr1 H1 hev
          split at h
          · rename_i r hr; exact main _ _ _ _ _ (.inr rfl) hev hr h
          · cases h
        · cases h
theorem evX_ok (hX : XtOk P Γ x) : ∀ n, EvOk P Γ (evX x P Γ n)
  | 0 => ⟨fun _ _ _ _ _ _ _ h => (by simp [evX] at h), fun _ _ _ _ _ _ _ _ _ h => (by simp [evX] at h)⟩
  | n + 1 => ⟨fun _ _ _ _ _ _ _ h => evFuncX_ok hX (evX_ok hX n) h, fun _ _ _ _ _ _ _ _ _ h _ => evLoopX_ok hX (evX_ok hX n) h⟩
end
def decE (q : IntKind) : List AVal → Option (Int × Value × Nat)
  | [.lit (.int q' n), .lit v, .lit (.int .i64 s)] => if q' = q ∧ 0 ≤ s then some (n, v, s.toNat) else none
  | _ => none
theorem decE_eq {q : IntKind} {r : List AVal} {e : Int × Value × Nat} (h : decE q r = some e) : r = entR q e := by
  unfold decE at h
  split at h
  · split at h
    · rename_i hc; cases h; obtain ⟨rfl, h2⟩ := hc; simp [entR, Int.toNat_of_nonneg h2]
    · cases h
  · cases h
def decEs (q : IntKind) : List (List AVal) → Option Ents
  | [] => some []
  | r :: l => match decE q r, decEs q l with
    | some e, some m => some (e :: m)
    | _, _ => none
theorem decEs_eq {q : IntKind} : ∀ {rs : List (List AVal)} {l : Ents}, decEs q rs = some l → rs = l.map (entR q)
  | [], l, h => by cases h; rfl
  | r :: rs, l, h => by
    simp only [decEs] at h
    split at h
    · rename_i e m h1 h2; cases h; rw [List.map_cons, ← decE_eq h1, ← decEs_eq h2]
    · cases h
def decM (q : IntKind) (B : Blk) : Option (Ents × Nat) :=
  match B.rows with
  | [.lit (.int .i64 c), .lit (.int .i64 n), .lit (.int .i64 m)] :: rs => match decEs q rs with
    | some l => if Nat.beq B.sz 3 = true ∧ B.pure = true ∧ 0 ≤ c ∧ n = l.length ∧ m = 1 then some (l, c.toNat) else none
    | none => none
  | _ => none
theorem decM_eq {q : IntKind} {B : Blk} {l : Ents} {c : Nat} (h : decM q B = some (l, c)) : B = mapB q l c := by
  unfold decM at h
  split at h
  · rename_i c' n m rs hr
    split at h
    · rename_i l' hl
      split at h
      · rename_i hc
        cases h
        obtain ⟨h1, h2, h3, h4, h5⟩ := hc
        cases B
        simp only at hr h1 h2
        rw [hr, h2, Nat.eq_of_beq_eq_true h1, decEs_eq hl]
        simp [mapB, Int.toNat_of_nonneg h3, h4, h5]
      · cases h
    · cases h
  · cases h
def mapTy (P : Program) (t : TypeId) : Option (TypeId × IntKind × Value) :=
  match P.underlying t with
  | some (.map kt et) => match P.underlying kt, (P.info? et).bind (·.zero) with
    | some (.int q), some z => some (kt, q, z)
    | _, _ => none
  | _ => none
theorem mapTy_ok {P : Program} {t kt : TypeId} {q : IntKind} {z : Value} (h : mapTy P t = some (kt, q, z)) : ∃ et, MapT P t kt et q z := by
  unfold mapTy at h
  split at h
  · rename_i kt' et h1
    split at h
    · rename_i q' z' h2 h3; cases h; exact ⟨et, h1, h2, h3⟩
    · cases h
  · cases h
def unl : Value → AVal
  | .agg cs => .agg (cs.toList.map .lit)
  | v => .lit v
theorem V_unl {w : World} {G : Nat → Prop} {ρ : Names} {A : Allow} (v : Value) : V w G ρ A (unl v) v := by
  unfold unl
  split
  · rename_i cs
    refine .agg (by simp) fun j u hj => ?_
    rw [List.getElem?_map, Option.map_eq_some_iff] at hj
    obtain ⟨y, hy, rfl⟩ := hj
    rw [Array.getElem?_toList] at hy
    rw [Array.getD_eq_getD_getElem?, hy]
    exact .lit
  · exact .lit
theorem Good.outV {P : Program} {Γ : List (Nat × List AVal)} {o : Oper} {ev : Operand → Option AVal} {get : Nat → Option Blk} {k k' : Nat} {v v' : AVal} {u : List (Nat × Option Blk)} {r : List Nat} (h : Good P Γ o ev get k ⟨v, k', u, r⟩)
    (hv : ∀ w G ρ A cv, V w G ρ A v cv → V w G ρ A v' cv) : Good P Γ o ev get k ⟨v', k', u, r⟩ :=
  ⟨fun w G ρ H A a hr hA hf hrd hop next Q hn => h.ok w G ρ H A a hr hA hf hrd hop next Q fun w' G' ρ' cv hrel hV hst => hn w' G' ρ' cv hrel (hv _ _ _ _ _ hV) hst, h.rds, h.le⟩
def keysOk (q : IntKind) (n : Int) (l : Ents) : Bool := wfK q n && l.all (fun e => wfK q e.1)
def ukB : List Int → Bool
  | [] => true
  | a :: l => l.all (fun b => !(b == a)) && ukB l
theorem ukB_ok : ∀ {l : List Int}, ukB l = true → l.Nodup
  | [], _ => List.nodup_nil
  | a :: l, h => by
    simp only [ukB, Bool.and_eq_true, List.all_eq_true, Bool.not_eq_true', beq_eq_false_iff_ne] at h
    exact List.nodup_cons.2 ⟨fun hm => h.1 a hm rfl, ukB_ok h.2⟩
def keyIn (ev : Operand → Option AVal) (q : IntKind) (x : Operand) : Option Int :=
  match ev x with
  | some (.lit (.int q' n)) => if q' = q then some n else none
  | _ => none
theorem keyIn_ok {ev : Operand → Option AVal} {q : IntKind} {x : Operand} {n : Int} (h : keyIn ev q x = some n) : ev x = some (.lit (.int q n)) := by
  unfold keyIn at h
  split at h
  · rename_i h1
    split at h
    · rename_i h2; cases h; rw [← h2]; exact h1
    · cases h
  · cases h
def mapIn (ev : Operand → Option AVal) (get : Nat → Option Blk) (q : IntKind) (m : Operand) : Option (Nat × Ents × Nat) :=
  match ev m with
  | some (.mp id) => match get id with
    | some B => match decM q B with
      | some (l, c) => some (id, l, c)
      | none => none
    | none => none
  | _ => none
theorem mapIn_ok {ev : Operand → Option AVal} {get : Nat → Option Blk} {q : IntKind} {m : Operand} {id : Nat} {l : Ents} {c : Nat} (h : mapIn ev get q m = some (id, l, c)) : ev m = some (.mp id) ∧ get id = some (mapB q l c) := by
  unfold mapIn at h
  split at h
  · rename_i i h1
    split at h
    · rename_i B h2
      split at h
      · rename_i h3; cases h; exact ⟨h1, by rw [h2, decM_eq h3]⟩
      · cases h
    · cases h
  · cases h
def decI (B : Blk) : Option (Nat × Nat × List Nat × Nat) :=
  match B.rows with
  | [.lit (.int .i64 c), .lit (.int .i64 n), .lit (.int .i64 m)] :: [.mp mid, .lit (.int .i64 s), .lit (.int .i64 z)] :: rs =>
    match rs with
    | [] => if Nat.beq B.sz 3 = true ∧ B.pure = false ∧ 0 ≤ c ∧ n = 0 ∧ m = 2 ∧ 0 ≤ s ∧ z = 0 then some (mid, s.toNat, [], c.toNat) else none
    | [[.lit (.int .i64 y), .lit (.int .i64 z1), .lit (.int .i64 z2)]] => if Nat.beq B.sz 3 = true ∧ B.pure = false ∧ 0 ≤ c ∧ n = 1 ∧ m = 2 ∧ 0 ≤ s ∧ z = 0 ∧ 0 ≤ y ∧ z1 = 0 ∧ z2 = 0 then some (mid, s.toNat, [y.toNat], c.toNat) else none
    | _ => none
  | _ => none
theorem decI_eq {B : Blk} {mid s : Nat} {l : List Nat} {c : Nat} (h : decI B = some (mid, s, l, c)) : B = iterB mid s l c := by
  unfold decI at h
  split at h
  · rename_i c' n m mid' s' z rs hr
    split at h
    · split at h
      · rename_i hc
        cases h
        obtain ⟨h1, h2, h3, h4, h5, h6, h7⟩ := hc
        cases B
        simp only at hr h1 h2
        rw [hr, h2, Nat.eq_of_beq_eq_true h1]
        simp [iterB, Int.toNat_of_nonneg h3, Int.toNat_of_nonneg h6, h4, h5, h7]
      · cases h
    · split at h
      · rename_i hc
        cases h
        obtain ⟨h1, h2, h3, h4, h5, h6, h7, h8, h9, h10⟩ := hc
        cases B
        simp only at hr h1 h2
        rw [hr, h2, Nat.eq_of_beq_eq_true h1]
        simp [iterB, Int.toNat_of_nonneg h3, Int.toNat_of_nonneg h6, Int.toNat_of_nonneg h8, h4, h5, h7, h9, h10]
      · cases h
    · cases h
  · cases h
def mapOp (P : Program) (o : Oper) (ev : Operand → Option AVal) (get : Nat → Option Blk) (k : Nat) : Option Out :=
  match o.op with
  | .makeMap t none => match mapTy P t with
    | some (_, q, _) => some ⟨.mp k, k + 1, [(k, some (mapB q [] 0))], []⟩
    | none => none
  | .lookup t m x true => match mapTy P t with
    | some (_, q, z) => match keyIn ev q x, mapIn ev get q m with
      | some n, some (id, l, _) => match keysOk q n l && ukB (l.map (·.1)) with
        | true => some ⟨.tup [unl ((findM l n).getD z), .lit (.bool (findM l n).isSome)], k, [], [id]⟩
        | false => none
      | _, _ => none
    | none => none
  | .mapUpdate t m x y => match mapTy P t with
    | some (_, q, _) => match keyIn ev q x, mapIn ev get q m, (ev y).bind aggOf with
      | some n, some (id, l, c), some v => match keysOk q n l && l.all (fun e => !(e.1 == n)) with
        | true => some ⟨.junk, k, [(id, some (mapB q (l ++ [(n, v, c)]) (c + 1)))], [id]⟩
        | false => none
      | _, _, _ => none
    | none => none
  | .call { callee := .builtin .delete, args := args, argTypes := ty } => match args.toList, ty.toList with
    | [m, x], [t, kt] => match mapTy P t with
      | some (kt', q, _) => match keyIn ev q x, mapIn ev get q m with
        | some n, some (id, l, c) => match Nat.beq kt kt' && (keysOk q n l && ukB (l.map (·.1))) with
          | true => some ⟨.lit (.tuple #[]), k, [(id, some (mapB q (delM l n) c))], [id]⟩
          | false => none
        | _, _ => none
      | none => none
    | _, _ => none
  | .range t m => match mapTy P t with
    | some (_, q, _) => match mapIn ev get q m with
      | some (id, _, c) => some ⟨.it k, k + 1, [(k, some (iterB id c [] c))], [id]⟩
      | none => none
    | none => none
  | .entry x => match ev x with
    | some (.it it) => match (get it).bind decI with
      | some (mid, _, [s], c0) => match (get mid).bind (decM .i64) with
        | some ([e], c) => match Nat.beq c c0 && Nat.beq e.2.2 s with
          | true => some ⟨.tup [.lit (.int .i64 e.1), .lit e.2.1], k, [], [it, mid]⟩
          | false => none
        | _ => none
      | _ => none
    | _ => none
  | _ => none
theorem keysOk_ok {q : IntKind} {n : Int} {l : Ents} (h : keysOk q n l = true) : wfK q n = true ∧ ∀ e ∈ l, wfK q e.1 = true := by
  simpa [keysOk, List.all_eq_true] using h
section
variable {P : Program} {Γ : List (Nat × List AVal)} {o : Oper} {ev : Operand → Option AVal} {get : Nat → Option Blk} {k : Nat}
theorem mapOp_good {out : Out} (h : mapOp P o ev get k = some out) : Good P Γ o ev get k out := by
  unfold mapOp at h
  split at h
  · rename_i t ho
    split at h
    · rename_i kt q z ht; cases h; exact makeM_good q ho
    · cases h
  · rename_i t m x ho
    split at h
    · rename_i kt q z ht
      obtain ⟨et, hT⟩ := mapTy_ok ht
      split at h
      · rename_i n id l c h1 h2
        split at h
        · rename_i hc
          cases h
          simp only [Bool.and_eq_true] at hc
          obtain ⟨h3, h4⟩ := mapIn_ok h2
          obtain ⟨h5, h6⟩ := keysOk_ok hc.1
          refine (look_good ho hT h3 (keyIn_ok h1) h4 h6 h5 (ukB_ok hc.2)).outV fun w G ρ A cv hV => ?_
          cases hV with
          | tup hl hv =>
            refine .tup hl fun j v hj => ?_
            match j, hj with
            | 0, hj =>
              cases hj
              have := hv 0 _ rfl
              generalize Array.getD _ 0 undef = cv at this ⊢
              cases this
              exact V_unl _
            | 1, hj => cases hj; exact hv 1 _ rfl
            | j + 2, hj => simp at hj
        · cases h
      · cases h
    · cases h
  · rename_i t m x y ho
    split at h
    · rename_i kt q z ht
      obtain ⟨et, hT⟩ := mapTy_ok ht
      split at h
      · rename_i n id l c v h1 h2 h3
        split at h
        · rename_i hc
          cases h
          simp only [Bool.and_eq_true, List.all_eq_true, Bool.not_eq_true', beq_eq_false_iff_ne] at hc
          obtain ⟨h4, h5⟩ := mapIn_ok h2
          obtain ⟨h6, h7⟩ := keysOk_ok hc.1
          obtain ⟨av, h8, h9⟩ := Option.bind_eq_some_iff.1 h3
          exact put_good ho hT h4 (keyIn_ok h1) h8 h9 h5 h7 h6 hc.2
        · cases h
      · cases h
    · cases h
  · rename_i args ty ho
    split at h
    · rename_i m x t kt ha hty
      split at h
      · rename_i kt' q z ht
        obtain ⟨et, hT⟩ := mapTy_ok ht
        split at h
        · rename_i n id l c h1 h2
          split at h
          · rename_i hc
            cases h
            simp only [Bool.and_eq_true] at hc
            obtain ⟨h3, h4⟩ := mapIn_ok h2
            obtain ⟨h5, h6⟩ := keysOk_ok hc.2.1
            obtain rfl := Nat.eq_of_beq_eq_true hc.1
            obtain rfl : args = #[m, x] := Array.ext' ha
            obtain rfl : ty = #[t, kt] := Array.ext' hty
            exact del_good ho hT h3 (keyIn_ok h1) h4 h6 h5 (ukB_ok hc.2.2)
          · cases h
        · cases h
      · cases h
    · cases h
  · rename_i t m ho
    split at h
    · rename_i kt q z ht
      obtain ⟨et, hT⟩ := mapTy_ok ht
      split at h
      · rename_i id l c h2
        cases h
        obtain ⟨h3, h4⟩ := mapIn_ok h2
        exact range_good ho hT h3 h4
      · cases h
    · cases h
  · rename_i x ho
    split at h
    · rename_i it hx
      split at h
      · rename_i mid since s c0 h1
        obtain ⟨B, h2, h3⟩ := Option.bind_eq_some_iff.1 h1
        obtain rfl := decI_eq h3
        split at h
        · rename_i e c h4
          obtain ⟨B', h5, h6⟩ := Option.bind_eq_some_iff.1 h4
          obtain rfl := decM_eq h6
          split at h
          · rename_i hc
            cases h
            simp only [Bool.and_eq_true] at hc
            obtain rfl := Nat.eq_of_beq_eq_true hc.1
            obtain rfl := Nat.eq_of_beq_eq_true hc.2
            exact entry_good (seen := []) ho hx h2 h5 (by simp) (by simp)
          · cases h
        · cases h
      · cases h
    · cases h
  · cases h
def mapNx (o : Oper) (ev : Operand → Option AVal) (get : Nat → Option Blk) (k : Nat) : Option Out :=
  match o.op with
  | .next x false => match ev x with
    | some (.it it) => match (get it).bind decI with
      | some (mid, since, seen, c0) => match (get mid).bind (decM .i64) with
        | some (l, clock) => match l.all (fun e => Nat.blt e.2.2 since) && Nat.ble since c0 with
          | true => match toCome l seen with
            | [] => some ⟨.tup [.lit (.bool false)], k, [], [it, mid]⟩
            | [e] => some ⟨.tup [.lit (.bool true), .lit (.int .i64 e.1), .lit e.2.1], k, [(it, some (iterB mid since (seen ++ [e.2.2]) clock))], [it, mid]⟩
            | _ => none
          | false => none
        | none => none
      | none => none
    | _ => none
  | _ => none
theorem mapNx_good {out : Out} (h : mapNx o ev get k = some out) : ∃ rds, GoodN P Γ o ev get k rds (fun out' => out' = out) := by
  unfold mapNx at h
  split at h
  · rename_i x ho
    split at h
    · rename_i it hx
      split at h
      · rename_i mid since seen c0 h1
        obtain ⟨B, h2, h3⟩ := Option.bind_eq_some_iff.1 h1
        obtain rfl := decI_eq h3
        split at h
        · rename_i l clock h4
          obtain ⟨B', h5, h6⟩ := Option.bind_eq_some_iff.1 h4
          obtain rfl := decM_eq h6
          split at h
          · rename_i hc
            simp only [Bool.and_eq_true, List.all_eq_true, Nat.blt_eq] at hc
            have key := next_good (P := P) (Γ := Γ) (k := k) ho hx h2 h5 hc.1 (Nat.le_of_ble_eq_true hc.2)
            refine ⟨_, ⟨fun w G ρ H A a hr hA hrd hop next Q hN => key.ok w G ρ H A a hr hA hrd hop next Q fun out' ho' => hN out' ?_, key.rds, fun out' ho' => ?_⟩⟩
            · split at h
              · rename_i ht
                cases h
                rcases ho' with ⟨_, rfl⟩ | ⟨e, he, rfl⟩
                · rfl
                · rw [ht] at he; simp at he
              · rename_i e0 ht
                cases h
                rcases ho' with ⟨h7, rfl⟩ | ⟨e, he, rfl⟩
                · rw [ht] at h7; cases h7
                · rw [ht] at he
                  obtain rfl : e = e0 := by simpa using he
                  rfl
              · cases h
            · subst ho'
              split at h
              · cases h; rfl
              · cases h; rfl
              · cases h
          · cases h
        · cases h
      · cases h
    · cases h
  · cases h
end
end Go.AM
end
section
namespace Go.AM
def offRow (id j : Nat) (row : List AVal) : Bool := (row.set j .junk).all (bd0 (offN id))
theorem offRow_get {id j : Nat} {row : List AVal} (h : offRow id j row = true) {c : Nat} {u : AVal} (hc : c ≠ j) (hu : row[c]? = some u) : bd0 (offN id) u = true := by
  have h1 : (row.set j .junk)[c]? = some u := by rw [List.getElem?_set_ne (Ne.symm hc)]; exact hu
  exact List.all_eq_true.1 h u (List.mem_of_getElem? h1)
theorem frz0_off {id : Nat} {B : Blk} {u : AVal} (hu : bd0 (offN id) u = true) : frz0 id B u = u := by
  cases u with
  | ptr i r c => simp only [bd0, offN, decide_eq_true_eq] at hu; simp [frz0, hu]
  | sl i r c => simp only [bd0, offN, decide_eq_true_eq] at hu; simp [frz0, hu]
  | _ => rfl
theorem Mv.frz_row {kb k : Nat} {fr : Fr} {H : Heap} {id s D sz : Nat} {l : List (List AVal)} {row : List AVal} (j : Nat) (v : AVal) (fr1 : Fr) (H1 : Heap) (hne : D ≠ id) (hD : look H D = some ⟨sz, false, [row]⟩) (hj : row[j]? = some (accV id l))
    (hH : accIn H id s l) (hv : VLe (rows s l) v) (hoff : offRow id j row = true) (h1 : keepF fr id fr1) (h2 : keepH H id H1) : Mv kb k fr H k fr1 ((D, ⟨sz, false, [row.set j v]⟩) :: H1) := by
  have hvle : ∀ u u', VLe u u' → VLe u' v → VLe u v := fun u u' a b w G ρ A cv h => b w G ρ A cv (a w G ρ A cv h)
  have hjl := (List.getElem?_eq_some_iff.1 hj).1
  cases l with
  | nil =>
    refine fun hk => Mv.wk ⟨hk, fun t' u hu => ⟨u, (keepF_look h1 t' u hu).1, VLe.refl u⟩, fun i B hB => ?_, .inl rfl⟩ hk
    simp only [look] at hB
    split at hB
    · rename_i he; subst he; cases hB
      refine ⟨_, hD, rfl, fun q row' hq => ?_, fun h => by cases h⟩
      cases q with
      | zero =>
        cases hq
        refine ⟨row, rfl, by simp, fun c u w hu hw => ?_⟩
        by_cases hc : c = j
        · subst hc
          rw [List.getElem?_set_self hjl] at hw
          rw [hj] at hu
          cases hu; cases hw
          exact hvle _ _ (VLe.nil s _) hv
        · rw [List.getElem?_set_ne (Ne.symm hc), hu] at hw; cases hw; exact VLe.refl _
      | succ q => simp at hq
    · exact ⟨B, (keepH_look h2 i B hB).2.1, BLe.refl B⟩
  | cons x r =>
    have h3 := hH (by simp)
    refine Mv.trans (Mv.freeze id h3 rfl) (fun hk => Mv.wk ⟨hk, fun t' u hu => ?_, fun i B hB => ?_, .inl rfl⟩ hk)
    · obtain ⟨h4, h5⟩ := keepF_look h1 t' u hu
      refine ⟨u, ?_, VLe.refl u⟩
      unfold frzF; rw [look_map, h4, Option.map_some, frz_off h5]
    · simp only [look] at hB
      split at hB
      · rename_i he; subst he; cases hB
        refine ⟨⟨sz, false, [row.map (frz0 id ⟨s, true, x :: r⟩)]⟩, by unfold frzH; rw [look_map, look_del, if_neg hne, hD]; rfl, rfl, fun q row' hq => ?_, fun h => by cases h⟩
        cases q with
        | zero =>
          cases hq
          refine ⟨row.map (frz0 id ⟨s, true, x :: r⟩), rfl, by simp, fun c u w hu hw => ?_⟩
          rw [List.getElem?_map] at hu
          by_cases hc : c = j
          · subst hc
            rw [List.getElem?_set_self hjl] at hw
            rw [hj] at hu
            cases hw
            simp only [Option.map_some, accV, frz0, Nat.zero_add, Nat.le_refl, and_self, if_true, Option.some.injEq] at hu
            subst hu
            exact hv
          · rw [List.getElem?_set_ne (Ne.symm hc)] at hw
            rw [hw, Option.map_some, frz0_off (offRow_get hoff hc hw)] at hu
            cases hu; exact VLe.refl _
        | succ q => simp [frzB] at hq
      · obtain ⟨h4, h5, h6⟩ := keepH_look h2 i B hB
        refine ⟨B, ?_, BLe.refl B⟩
        unfold frzH
        rw [look_map, look_del, if_neg h4, h5]
        simp [frzB, h6]
attribute [go_sem] offRow
end Go.AM
end
section
namespace Go.Proofs.T
open Go Go.AM Go.Proofs
set_option maxRecDepth 20000
variable {Γ : List (Nat × List AVal)}
theorem Pure_leD {P : Program} {f : FuncId} {args : List AVal} {r r' : AVal} (h : AM.Pure P Γ f args r) (hle : VLe r r') : AM.Pure P Γ f args r' := fun k A hA w G ρ cargs h1 h2 =>
  (h k A hA w G ρ cargs h1 h2).mono fun _ _ ⟨cv, G', ρ', k', r1, H', he, ⟨e1, e2, e3⟩, a, b, c, d⟩ => ⟨cv, G', ρ', k', r', H', he, ⟨e1, rfl, e3⟩, a, b, hle _ _ _ _ _ (e2 ▸ c), d⟩
theorem bd0_rows (p : Nat → Bool) (s : Nat) (l : List (List AVal)) : bd0 p (rows s l) = true := rfl
attribute [go_sem] bd0_rows
theorem setH_acc {i id s : Nat} {l : List (List AVal)} {H : Heap} {B : Blk} (h : id ≠ i) : setH (accH id s l H) i B = accH id s l (setH H i B) := by
  cases l with
  | nil => rfl
  | cons x r => simp only [accH, setH]; rw [if_neg h]
attribute [go_sem] setH_acc
def zT : Tk := ⟨0, 0, 0, 0, 0, false, 0, 0⟩
end Go.Proofs.T
end
section
namespace Go.AM
open Go Go.RowKit Go.Proofs Go.Shelf
abbrev str (l : List UInt8) : ByteArray := ⟨l.toArray⟩
theorem str_data (b : ByteArray) : str b.data.toList = b := rfl
def strs (l : List (List UInt8)) : AVal := .rd 1 l.length (fun i => [.lit (.string (str (l.getD i [])))])
def atoiV (l : List UInt8) : Int := match Lib.atoiAll l with
  | .ok v => v
  | .range => Lib.atoiSat l
  | _ => 0
section
variable {P : Program} {ρ : Ren} {Γ : List (Nat × List AVal)}
theorem Pure_Itoa (L : LaysM.n171 P ρ) {g : Nat} (hg : P.globalNamed "internal/strconv.uint64pow10" = some g) (hΓ : look Γ g = some (Lib.pow10Tab.map fun z => .lit (.int .u64 z))) (n : Int)
    (h0 : -9223372036854775808 ≤ n) (h1 : n ≤ 9223372036854775807) : Pure P Γ (ρ.f 171) [.lit (.int .i64 n)] (.lit (.string (str (Lib.itoa n)))) :=
  Pure_calls rfl fun w G args hG hv => by
    rw [Vs_one hv]
    refine (Any.strconv_Itoa L n h0 h1 w ((hG g _ hΓ).tab hg)).mono ?_
    rintro e w' ⟨rfl, k, os, rfl⟩
    refine ⟨_, rfl, ⟨rfl, rfl, rfl, by first | (simp [Sort.grow]; done) | (simp [Sort.grow]; omega), fun i hi => ?_⟩, .lit⟩
    show ((w.drewN k).heap ++ os)[i]? = _
    rw [Array.getElem?_append_left (by show i < w.heap.size; omega)]
    rfl
theorem V_pair {w : World} {G : Nat → Prop} {ρ : Names} {A : Allow} {n : Int} {x : Value} : V w G ρ A (.tup [.lit (.int .i64 n), .junk]) (.tuple #[.int .i64 n, x]) := by
  refine .tup rfl fun j v hj => ?_
  match j with
  | 0 => cases hj; exact .lit
  | 1 => cases hj; exact .junk
  | j + 2 => simp at hj
theorem Pure_Atoi (L : LaysC.n172 P ρ) {te pe te' pe'} (hS : look Γ (ρ.g 15) = some [.lit (.iface te pe)]) (hR : look Γ (ρ.g 16) = some [.lit (.iface te' pe')]) (l : List UInt8) (hl : l.length ≤ 281474976710656) :
    Pure P Γ (ρ.f 172) [.lit (.string (str l))] (.tup [.lit (.int .i64 (atoiV l)), .junk]) :=
  Pure_calls rfl fun w G args hG hv => by
    rw [Vs_one hv]
    have hs : (str l).size ≤ 281474976710656 := by simpa [ByteArray.size] using hl
    have hd : (str l).data.toList = l := by simp
    cases h : Lib.atoiAll l
    · rename_i v
      refine (Any.strconv_Atoi_ok L (str l) (by omega) v (by rw [hd]; exact h) w).mono ?_
      rintro e w' ⟨rfl, hw⟩
      refine ⟨_, rfl, ?_, by rw [atoiV, h]; exact V_pair⟩
      rcases hw with rfl | ⟨t, rfl⟩
      · exact Below.refl _ _
      · exact Lib.bytesWorld_below _ _ _
    · refine (Any.strconv_Atoi_syntax L (str l) hs (by rw [hd]; exact h) (.iface te pe) w ((hG _ _ hS).cell rfl) (.inr ⟨_, _, rfl⟩)).mono ?_
      rintro e w' ⟨N, rfl, _, _, hb⟩
      exact ⟨_, rfl, hb, by rw [atoiV, h]; exact V_pair⟩
    · refine (Any.strconv_Atoi_range L (str l) hs (by rw [hd]; exact h) (.iface te' pe') w ((hG _ _ hR).cell rfl) (.inr ⟨_, _, rfl⟩)).mono ?_
      rintro e w' ⟨N, rfl, _, _, hb⟩
      exact ⟨_, rfl, hb, by rw [atoiV, h, hd]; exact V_pair⟩
theorem Pure_Split (L : Lays.n146 P ρ) (hi9 : (P.info? (ρ.t 9)).map (fun i => (i.zero, i.size, i.bytes)) = some (some (.string ByteArray.empty), 1, 16)) {m : Int} (hM : look Γ (ρ.g 1) = some [.lit (.int .i64 m)]) (l sep : List UInt8)
    (hl : l.length < 4294967281) (h1 : 1 ≤ sep.length) : Pure P Γ (ρ.f 146) [.lit (.string (str l)), .lit (.string (str sep))] (strs (Lib.split l sep)) :=
  Pure_calls rfl fun w G args hG hv => by
    rw [Vs_two hv]
    have hs : (str l).size < 4294967281 := by simpa [ByteArray.size] using hl
    have h1' : 1 ≤ (str sep).size := by simpa [ByteArray.size] using h1
    refine (Any.strings_Split L hi9 (str l) (str sep) m w hs ((hG _ _ hM).cell rfl) h1').mono ?_
    rintro e w' ⟨rfl, rfl⟩
    have hlen := Lib.splitB_all (str sep) h1' 0 _ (str l) rfl
    have hle := Lib.countB_le (str sep) h1' (str l).size (str l) (Nat.le_refl _)
    have hdat := Lib.splitB_data (str sep) 0 (Lib.countB (str l) (str sep)) (str l)
    have hsp : Lib.split l sep = (Lib.splitB (str sep) 0 (Lib.countB (str l) (str sep)) (str l)).map (·.data.toList) := by
      rw [hdat]; simp [Lib.split, Lib.countB]
    refine ⟨_, rfl, (Below.refl _ _).alloc (Nat.le_refl _) _, ?_⟩
    unfold strs
    rw [hsp]
    generalize hq : Lib.splitB (str sep) 0 (Lib.countB (str l) (str sep)) (str l) = q at *
    rw [← hlen, List.length_map]
    refine .rd (fun i _ => .string (q.getD i default)) (.inr ⟨Nat.le_refl _, by simp⟩) (Nat.le_refl _) (by unfold maxLen; omega) (fun i hi => rfl) (fun i j v hi hj => ?_) (fun i j v hi hj => ?_)
    · match j with
      | 0 =>
        have hi' : i < q.length := hi
        have e : 0 + i * 1 + 0 = i := by omega
        rw [e, World.cell?_alloc_at _ _ _ _ rfl, List.getElem?_toArray, List.getElem?_map, List.getElem?_eq_getElem hi']
        simp [List.getD, hi']
      | j + 1 => simp at hj
    · match j with
      | 0 =>
        simp only [List.getElem?_cons_zero, Option.some.injEq] at hj
        subst hj
        have e : str (List.getD (q.map (·.data.toList)) i []) = q.getD i default := by simp [List.getD, hi]
        rw [e]; exact .lit
      | j + 1 => simp at hj
end
end Go.AM
end
section
namespace Go.Proofs.T
open Go Go.Lib
def dig (c : UInt8) : Bool := decide (48 ≤ c.toNat) && decide (c.toNat ≤ 57)
theorem dig_iff {c : UInt8} : dig c = true ↔ 48 ≤ c.toNat ∧ c.toNat ≤ 57 := by simp [dig]
def valF (a : Nat) (l : List UInt8) : Nat := l.foldl (fun a c => a * 10 + (c.toNat - 48)) a
theorem valF_nil (a : Nat) : valF a [] = a := rfl
theorem valF_cons (a : Nat) (c : UInt8) (r : List UInt8) : valF a (c :: r) = valF (a * 10 + (c.toNat - 48)) r := List.foldl_cons ..
theorem valF_append (l m : List UInt8) (a : Nat) : valF a (l ++ m) = valF (valF a l) m := List.foldl_append ..
theorem valF_ge : ∀ (l : List UInt8) (a : Nat), a ≤ valF a l
  | [], _ => Nat.le_refl _
  | c :: l, a => by rw [valF_cons]; exact Nat.le_trans (by omega) (valF_ge l (a * 10 + (c.toNat - 48)))
theorem ofNat_dig {d : Nat} (h : d < 10) : (UInt8.ofNat (48 + d)).toNat = 48 + d := by
  have : (48 + d) < 256 := by omega
  simp [UInt8.toNat_ofNat']; omega
theorem dec_lt10 {n : Nat} (h : n < 10) : decDigits n = [UInt8.ofNat (48 + n)] := by rw [decDigits, dif_pos h]
theorem dec_big {n : Nat} (h : ¬ n < 10) : decDigits n = decDigits (n / 10) ++ [UInt8.ofNat (48 + n % 10)] := by rw [decDigits, dif_neg h]
theorem dec_val (n : Nat) : valF 0 (decDigits n) = n := by
  induction n using Nat.strongRecOn with
  | _ n ih =>
    by_cases h : n < 10
    · rw [dec_lt10 h]
      rw [valF_cons, valF_nil]
      have := ofNat_dig h
      omega
    · rw [dec_big h, valF_append, ih (n / 10) (by omega)]
      rw [valF_cons, valF_nil]
      have := ofNat_dig (d := n % 10) (by omega)
      omega
theorem dec_dig (n : Nat) : ∀ c ∈ decDigits n, dig c = true := by
  induction n using Nat.strongRecOn with
  | _ n ih =>
    intro c hc
    by_cases h : n < 10
    · rw [dec_lt10 h] at hc; simp only [List.mem_singleton] at hc; subst hc; rw [dig_iff, ofNat_dig h]; omega
    · rw [dec_big h] at hc
      rcases List.mem_append.1 hc with hc | hc
      · exact ih (n / 10) (by omega) c hc
      · simp only [List.mem_singleton] at hc; subst hc; rw [dig_iff, ofNat_dig (by omega)]; omega
theorem dec_ne (n : Nat) : decDigits n ≠ [] := by
  by_cases h : n < 10
  · rw [dec_lt10 h]; simp
  · rw [dec_big h]; simp
structure Canon (l : List UInt8) : Prop where
  ne : l ≠ []
  all : ∀ c ∈ l, dig c = true
  head : l.head? = some 48 → l.length = 1
theorem dec_of {l : List UInt8} (h : Canon l) : decDigits (valF 0 l) = l := by
  suffices key : ∀ (n : Nat) (l : List UInt8), l.length = n → Canon l → decDigits (valF 0 l) = l from key _ l rfl h
  intro n
  induction n with
  | zero => intro l hl h; exact absurd (List.length_eq_zero_iff.1 hl) h.ne
  | succ n ih =>
    intro l hl h
    obtain ⟨m, c, rfl⟩ : ∃ m c, l = m ++ [c] := ⟨l.dropLast, l.getLast h.ne, (List.dropLast_concat_getLast h.ne).symm⟩
    have hc := dig_iff.1 (h.all c (by simp))
    rw [valF_append]
    by_cases hm : m = []
    · subst hm
      have e : valF (valF 0 []) [c] = c.toNat - 48 := by
        rw [valF_cons, valF_nil, valF_nil]
        omega
      rw [e, dec_lt10 (by omega)]
      have : 48 + (c.toNat - 48) = c.toNat := by omega
      rw [this]; simp
    · obtain ⟨x, m', rfl⟩ := List.exists_cons_of_ne_nil hm
      have hx := dig_iff.1 (h.all x (by simp))
      have hne : x.toNat ≠ 48 := fun e => by
        have : x = 48 := UInt8.toNat_inj.1 (by rw [e]; rfl)
        have := h.head (by simp [this])
        simp at this
      have hcan : Canon (x :: m') := ⟨by simp, fun c hc => h.all c (by simp only [List.mem_append]; exact .inl hc), fun e => by
        simp only [List.head?_cons, Option.some.injEq] at e
        rw [e] at hne; exact absurd rfl hne⟩
      have hv : 1 ≤ valF 0 (x :: m') := by rw [valF_cons]; exact Nat.le_trans (by omega) (valF_ge m' (0 * 10 + (x.toNat - 48)))
      have h1 := ih (x :: m') (by simp only [List.length_append, List.length_cons, List.length_nil] at hl ⊢; omega) hcan
      generalize valF 0 (x :: m') = v at h1 hv ⊢
      have e : valF v [c] = v * 10 + (c.toNat - 48) := by rw [valF_cons, valF_nil]
      rw [e, dec_big (by omega)]
      have e1 : (v * 10 + (c.toNat - 48)) / 10 = v := by omega
      have e2 : 48 + (v * 10 + (c.toNat - 48)) % 10 = c.toNat := by omega
      rw [e1, e2, h1]; simp
theorem dec_canon (n : Nat) : Canon (decDigits n) := by
  refine ⟨dec_ne n, dec_dig n, ?_⟩
  induction n using Nat.strongRecOn with
  | _ n ih =>
    intro h
    by_cases h1 : n < 10
    · rw [dec_lt10 h1]; rfl
    · rw [dec_big h1] at h
      have hne := dec_ne (n / 10)
      obtain ⟨x, m, e⟩ := List.exists_cons_of_ne_nil hne
      have h0 : (decDigits (n / 10)).head? = some 48 := by rw [e] at h ⊢; simpa using h
      have hl := ih (n / 10) (by omega) h0
      have h2 : decDigits (n / 10) = [48] := by
        rw [e] at hl h0 ⊢
        simp only [List.head?_cons, Option.some.injEq] at h0
        simp only [List.length_cons] at hl
        rw [h0, List.length_eq_zero_iff.1 (show m.length = 0 by omega)]
      have h3 := dec_val (n / 10)
      rw [h2] at h3
      have h4 : valF 0 [48] = 0 := rfl
      rw [h4] at h3
      omega
theorem dec_no32 (n : Nat) : (32 : UInt8) ∉ decDigits n := fun h => by have := dig_iff.1 (dec_dig n 32 h); simp at this
theorem parse_cons (c : UInt8) (l : List UInt8) (a : Nat) (hc : 48 ≤ c.toNat ∧ c.toNat ≤ 57) (h : a * 10 + (c.toNat - 48) < 18446744073709551616) : parseUint10 a (c :: l) = parseUint10 (a * 10 + (c.toNat - 48)) l := by
  have h1 : ¬ 1844674407370955162 ≤ a := by omega
  have h2 : ¬ 18446744073709551616 ≤ a * 10 + (c.toNat - 48) := by omega
  rw [parseUint10, if_pos hc, if_neg h1, if_neg h2]
theorem parse_dig (l : List UInt8) : ∀ (a : Nat), (∀ c ∈ l, dig c = true) → valF a l < 18446744073709551616 → parseUint10 a l = .ok (valF a l) := by
  induction l with
  | nil => intro a _ _; rfl
  | cons c l ih =>
    intro a hd hv
    have hc := dig_iff.1 (hd c (List.mem_cons_self ..))
    have hge := valF_ge l (a * 10 + (c.toNat - 48))
    rw [valF_cons] at hv ⊢
    rw [parse_cons c l a hc (Nat.lt_of_le_of_lt hge hv)]
    exact ih _ (fun c hc => hd c (List.mem_cons_of_mem _ hc)) hv
theorem atoi_dec (n : Nat) (h : n ≤ 9223372036854775807) : atoiAll (decDigits n) = .ok (n : Int) := by
  obtain ⟨c, r, e⟩ := List.exists_cons_of_ne_nil (dec_ne n)
  have hc := dig_iff.1 (dec_dig n c (by rw [e]; simp))
  have hp : parseMag (decDigits n) = .ok n := by
    unfold parseMag
    rw [if_neg (dec_ne n), parse_dig _ _ (dec_dig n) (by rw [dec_val]; omega), dec_val]
  rw [e] at hp ⊢
  unfold atoiAll
  simp only []
  rw [if_neg (by omega), hp]
  simp only []
  rw [if_neg (by omega), if_neg (by omega), if_neg (by omega)]
theorem atoi_neg (n : Nat) (h1 : 1 ≤ n) (h : n ≤ 9223372036854775808) : atoiAll (45 :: decDigits n) = .ok (-(n : Int)) := by
  have hp : parseMag (decDigits n) = .ok n := by
    unfold parseMag
    rw [if_neg (dec_ne n), parse_dig _ _ (dec_dig n) (by rw [dec_val]; omega), dec_val]
  unfold atoiAll
  simp only []
  rw [if_pos (by decide), hp]
  simp only []
  rw [if_neg (fun h => h.1 (by decide)), if_neg (by omega), if_pos (by decide)]
theorem atoi_itoa (n : Int) (h0 : -9223372036854775808 ≤ n) (h1 : n ≤ 9223372036854775807) : atoiAll (itoa n) = .ok n := by
  unfold itoa
  split
  · rw [atoi_neg n.natAbs (by omega) (by omega)]; congr 1; omega
  · rw [atoi_dec n.toNat (by omega)]; congr 1; omega
theorem itoa_nat (n : Nat) : itoa (n : Int) = decDigits n := itoa_nonneg n
theorem index_hit : ∀ (a s : List UInt8), (32 : UInt8) ∉ a → index (a ++ 32 :: s) [32] = (a.length : Int)
  | [], s, _ => by simp [index]
  | c :: a, s, h => by
    have hc : c ≠ 32 := fun e => h (by simp [e])
    have ih := index_hit a s (fun e => h (by simp [e]))
    simp only [List.cons_append, index]
    rw [if_neg (by simp [Ne.symm hc]), ih, if_neg (by simp)]
    simp
theorem index_miss : ∀ (a : List UInt8), (32 : UInt8) ∉ a → index a [32] = -1
  | [], _ => by simp [index]
  | c :: a, h => by
    have hc : c ≠ 32 := fun e => h (by simp [e])
    have ih := index_miss a (fun e => h (by simp [e]))
    simp only [index]
    rw [if_neg (by simp [Ne.symm hc]), ih, if_pos (by simp)]
theorem split_one {a : List UInt8} (h : (32 : UInt8) ∉ a) : split a [32] = [a] := by
  unfold split; rw [count_miss (index_miss a h)]; rfl
theorem split_cons {a s : List UInt8} (h : (32 : UInt8) ∉ a) : split (a ++ 32 :: s) [32] = a :: split s [32] := by
  have hi := index_hit a s h
  have hd : (a ++ 32 :: s).drop (a.length + [(32 : UInt8)].length) = s := by
    rw [← List.drop_drop, List.drop_left]; rfl
  unfold split
  rw [count_hit (by simp) hi, hd, Nat.add_comm, splitK, hi, if_neg (by simp)]
  simp only [Int.toNat_natCast, Nat.add_zero, List.take_left]
  rw [hd]
theorem split_ne (s : List UInt8) : split s [32] ≠ [] := by
  unfold split
  cases count s [32] with
  | zero => simp [splitK]
  | succ k => unfold splitK; split <;> simp
end Go.Proofs.T
end
section
namespace Go.AM
open Go Go.Lib
section
variable {P : Program} {k : Nat}
theorem s_toList (l : List UInt8) : (ByteArray.mk l.toArray).toList = l := ByteArray.toList_mk l
theorem s_app (a b : List UInt8) : ByteArray.mk a.toArray ++ ByteArray.mk b.toArray = ByteArray.mk (a ++ b).toArray := by
  apply ByteArray.ext; simp
theorem s_ext (a : List UInt8) (l h : Nat) : (ByteArray.mk a.toArray).extract l h = ByteArray.mk ((a.take h).drop l).toArray := by
  apply ByteArray.ext; simp [List.drop_take]
theorem e_mif {c : Prop} [Decidable c] {v : Value} : Option.getD.match_1 (fun _ => Option AVal) (if c then none else some v) (fun x => some (AVal.lit x)) (fun _ => none) = if ¬ c then some (AVal.lit v) else none := by
  by_cases h : c
  · rw [if_pos h, if_neg (fun e => e h)]
  · rw [if_neg h, if_pos h]
theorem e_mvi {c : Prop} [Decidable c] {v : AVal} : moveO k (if c then some v else none) = if c then some (qOut k v) else none := by
  by_cases h : c
  · rw [if_pos h, if_pos h]; rfl
  · rw [if_neg h, if_neg h]; rfl
end
attribute [go_sem] s_toList s_app s_ext e_mif e_mvi List.size_toArray List.take_length List.drop_zero
theorem V_strs (l : List (List UInt8)) : VLe (rows 1 (l.map fun x => [.lit (.string (ByteArray.mk x.toArray))])) (strs l) := by
  unfold rows strs
  rw [List.length_map]
  exact VLe.rd fun i hi => by simp [List.getD, hi]
theorem utf8_dig {n : Int} (h0 : 48 ≤ n) (h1 : n ≤ 57) : Utf8.encode n = ByteArray.mk [UInt8.ofNat n.toNat].toArray := by
  unfold Utf8.encode
  have hv : Utf8.valid n = true := by
    unfold Utf8.valid; simp; omega
  simp only [hv, if_true]
  rw [if_pos (by omega)]
theorem dec_len : ∀ (k n : Nat), n < 10 ^ (k + 1) → (decDigits n).length ≤ k + 1
  | 0, n, h => by rw [Proofs.T.dec_lt10 (by simpa using h)]; simp
  | k + 1, n, h => by
    by_cases h1 : n < 10
    · rw [Proofs.T.dec_lt10 h1]; simp
    · rw [Proofs.T.dec_big h1]
      have := dec_len k (n / 10) (by rw [Nat.pow_succ] at h; omega)
      simp only [List.length_append, List.length_cons, List.length_nil]; omega
theorem itoa_len (n : Int) (h0 : -9223372036854775808 ≤ n) (h1 : n ≤ 9223372036854775807) : (itoa n).length ≤ 20 := by
  unfold itoa
  split
  · have := dec_len 18 n.natAbs (by omega); simp only [List.length_cons]; omega
  · have := dec_len 18 n.toNat (by omega); omega
end Go.AM
end
section
namespace Go.Proofs.T
open Go Go.Lib Go.AM
def nmL : List (List UInt8) := [[], [99, 111, 110, 102, 105, 103], [115, 104, 97, 112, 101], [99, 108, 111, 99, 107], [111, 114, 100, 101, 114], [105, 100], [103, 114, 111, 117, 112], [99, 112, 117], [109, 97, 115, 107], [112, 108, 97, 99, 101], [116, 97, 115, 107], [115, 112, 111, 116], [114, 111, 111, 116], [99, 117, 114, 114, 101, 110, 116], [102, 108, 111, 111, 114], [98, 97, 99, 107], [102, 101, 108, 108], [111, 116, 104, 101, 114]]
def nm (r : Nat) : List UInt8 := nmL.getD r []
theorem atoiV_bounds (l : List UInt8) : -9223372036854775808 ≤ atoiV l ∧ atoiV l ≤ 9223372036854775807 := by
  unfold atoiV
  cases h : atoiAll l
  · rename_i v
    simp only []
    unfold atoiAll at h
    split at h
    · cases h
    · rename_i c r
      simp only [] at h
      split at h
      · cases h
      · cases h
      · rename_i u hu
        split at h
        · cases h
        · split at h
          · cases h
          · injection h with h
            split at h <;> omega
  · simp
  · simp only [atoiSat]; split <;> omega
end Go.Proofs.T
end
section
namespace Go.Proofs
open Go.Shelf
def Tryz.layItoa_ren : Go.Shelf.Ren := ⟨fun | 171 => 216 | 243 => 258 | 246 => 290 | 283 => 293 | 284 => 294 | 285 => 295 | 286 => 296 | 129 => 207 | 317 => 311 | 318 => 312 | 319 => 313 | 320 => 314 | 337 => 319 | 338 => 320 | n => n, fun | 3 => 3 | 9 => 9 | 2 => 2 | 4 => 4 | 171 => 333 | 0 => 0 | 53 => 22 | 37 => 238 | 5 => 5 | 173 => 335 | 212 => 351 | 51 => 50 | 20 => 20 | 213 => 352 | 46 => 189 | 232 => 363 | 233 => 364 | n => n, fun | 17 => 3 | 18 => 6 | 19 => 7 | n => n⟩
theorem Tryz.layItoa : Go.Proofs.LaysM.n171 Tryz.prog Tryz.layItoa_ren := {
  mixed := by kernel_rfl
  f129 := Tryz.func207.trans (congrArg some (by kernel_rfl))
  f171 := Tryz.func216.trans (congrArg some (by kernel_rfl))
  f243 := Tryz.func258.trans (congrArg some (by kernel_rfl))
  f246 := Tryz.func290.trans (congrArg some (by kernel_rfl))
  f283 := Tryz.func293.trans (congrArg some (by kernel_rfl))
  f284 := Tryz.func294.trans (congrArg some (by kernel_rfl))
  f285 := Tryz.func295.trans (congrArg some (by kernel_rfl))
  f286 := Tryz.func296.trans (congrArg some (by kernel_rfl))
  f317 := Tryz.func311.trans (congrArg some (by kernel_rfl))
  f318 := Tryz.func312.trans (congrArg some (by kernel_rfl))
  f319 := Tryz.func313.trans (congrArg some (by kernel_rfl))
  f320 := Tryz.func314.trans (congrArg some (by kernel_rfl))
  f337 := Tryz.func319.trans (congrArg some (by kernel_rfl))
  f338 := Tryz.func320.trans (congrArg some (by kernel_rfl))
  t0 := Tryz.underlying0
  a0 := Tryz.isAgg0
  z0 := Tryz.sizeOf0
  v0 := Tryz.zeroValue0
  t2 := Tryz.underlying2
  a2 := Tryz.isAgg2
  z2 := Tryz.sizeOf2
  v2 := Tryz.zeroValue2
  t3 := Tryz.underlying3
  a3 := Tryz.isAgg3
  z3 := Tryz.sizeOf3
  v3 := Tryz.zeroValue3
  t4 := Tryz.underlying4
  a4 := Tryz.isAgg4
  z4 := Tryz.sizeOf4
  v4 := Tryz.zeroValue4
  t5 := Tryz.underlying5
  a5 := Tryz.isAgg5
  z5 := Tryz.sizeOf5
  v5 := Tryz.zeroValue5
  t9 := Tryz.underlying9
  a9 := Tryz.isAgg9
  z9 := Tryz.sizeOf9
  v9 := Tryz.zeroValue9
  t20 := Tryz.underlying20
  a20 := Tryz.isAgg20
  z20 := Tryz.sizeOf20
  v20 := Tryz.zeroValue20
  t37 := Tryz.underlying238
  a37 := Tryz.isAgg238
  z37 := Tryz.sizeOf238
  v37 := Tryz.zeroValue238
  t46 := Tryz.underlying189
  a46 := Tryz.isAgg189
  z46 := Tryz.sizeOf189
  v46 := Tryz.zeroValue189
  t51 := Tryz.underlying50
  a51 := Tryz.isAgg50
  z51 := Tryz.sizeOf50
  v51 := Tryz.zeroValue50
  t53 := Tryz.underlying22
  a53 := Tryz.isAgg22
  z53 := Tryz.sizeOf22
  v53 := Tryz.zeroValue22
  t171 := Tryz.underlying333
  a171 := Tryz.isAgg333
  z171 := Tryz.sizeOf333
  v171 := Tryz.zeroValue333
  t173 := Tryz.underlying335
  a173 := Tryz.isAgg335
  z173 := Tryz.sizeOf335
  v173 := Tryz.zeroValue335
  t212 := Tryz.underlying351
  a212 := Tryz.isAgg351
  z212 := Tryz.sizeOf351
  v212 := Tryz.zeroValue351
  t213 := Tryz.underlying352
  a213 := Tryz.isAgg352
  z213 := Tryz.sizeOf352
  t232 := Tryz.underlying363
  a232 := Tryz.isAgg363
  z232 := Tryz.sizeOf363
  v232 := Tryz.zeroValue363
  t233 := Tryz.underlying364
  a233 := Tryz.isAgg364
  z233 := Tryz.sizeOf364
  v233 := Tryz.zeroValue364
  g17 := by kernel_rfl
  g18 := by kernel_rfl
  g19 := by kernel_rfl
  i0 := by kernel_rfl
  i2 := by kernel_rfl
  i3 := by kernel_rfl
  i4 := by kernel_rfl
  i5 := by kernel_rfl
  i9 := by kernel_rfl
  i20 := by kernel_rfl
  i37 := by kernel_rfl
  i46 := by kernel_rfl
  i51 := by kernel_rfl
  i53 := by kernel_rfl
  i171 := by kernel_rfl
  i173 := by kernel_rfl
  i212 := by kernel_rfl
  i232 := by kernel_rfl
  i233 := by kernel_rfl
  m17 := by kernel_rfl
  m18 := by kernel_rfl
  m19 := by kernel_rfl }
def Tryz.layAtoi_ren : Go.Shelf.Ren := ⟨fun | 172 => 150 | 244 => 220 | 245 => 221 | 247 => 263 | 279 => 264 | 280 => 265 | 281 => 266 | 282 => 267 | 287 => 222 | 316 => 297 | 171 => 216 | 205 => 298 | 321 => 268 | 322 => 269 | 243 => 258 | 246 => 290 | 283 => 293 | 284 => 294 | 285 => 295 | 286 => 296 | 129 => 207 | 317 => 311 | 318 => 312 | 319 => 313 | 320 => 314 | 337 => 319 | 338 => 320 | n => n, fun | 9 => 9 | 3 => 3 | 75 => 216 | 76 => 217 | 4 => 4 | 5 => 5 | 167 => 313 | 37 => 238 | 0 => 0 | 85 => 314 | 2 => 2 | 168 => 316 | 53 => 22 | 175 => 219 | 46 => 189 | 210 => 339 | 127 => 332 | 145 => 355 | 143 => 353 | 21 => 21 | 171 => 333 | 173 => 335 | 212 => 351 | 51 => 50 | 20 => 20 | 213 => 352 | 232 => 363 | 233 => 364 | 80 => 312 | n => n, fun | 15 => 0 | 16 => 1 | 17 => 3 | 18 => 6 | 19 => 7 | n => n⟩
theorem Tryz.layAtoi : Go.Proofs.LaysC.n172 Tryz.prog Tryz.layAtoi_ren := {
  mixed := by kernel_rfl
  f129 := Tryz.func207.trans (congrArg some (by kernel_rfl))
  f171 := Tryz.func216.trans (congrArg some (by kernel_rfl))
  f172 := Tryz.func150.trans (congrArg some (by kernel_rfl))
  f205 := Tryz.func298.trans (congrArg some (by kernel_rfl))
  f243 := Tryz.func258.trans (congrArg some (by kernel_rfl))
  f244 := Tryz.func220.trans (congrArg some (by kernel_rfl))
  f245 := Tryz.func221.trans (congrArg some (by kernel_rfl))
  f246 := Tryz.func290.trans (congrArg some (by kernel_rfl))
  f247 := Tryz.func263.trans (congrArg some (by kernel_rfl))
  f279 := Tryz.func264.trans (congrArg some (by kernel_rfl))
  f280 := Tryz.func265.trans (congrArg some (by kernel_rfl))
  f281 := Tryz.func266.trans (congrArg some (by kernel_rfl))
  f282 := Tryz.func267.trans (congrArg some (by kernel_rfl))
  f283 := Tryz.func293.trans (congrArg some (by kernel_rfl))
  f284 := Tryz.func294.trans (congrArg some (by kernel_rfl))
  f285 := Tryz.func295.trans (congrArg some (by kernel_rfl))
  f286 := Tryz.func296.trans (congrArg some (by kernel_rfl))
  f287 := Tryz.func222.trans (congrArg some (by kernel_rfl))
  f316 := Tryz.func297.trans (congrArg some (by kernel_rfl))
  f317 := Tryz.func311.trans (congrArg some (by kernel_rfl))
  f318 := Tryz.func312.trans (congrArg some (by kernel_rfl))
  f319 := Tryz.func313.trans (congrArg some (by kernel_rfl))
  f320 := Tryz.func314.trans (congrArg some (by kernel_rfl))
  f321 := Tryz.func268.trans (congrArg some (by kernel_rfl))
  f322 := Tryz.func269.trans (congrArg some (by kernel_rfl))
  f337 := Tryz.func319.trans (congrArg some (by kernel_rfl))
  f338 := Tryz.func320.trans (congrArg some (by kernel_rfl))
  t0 := Tryz.underlying0
  a0 := Tryz.isAgg0
  z0 := Tryz.sizeOf0
  v0 := Tryz.zeroValue0
  t2 := Tryz.underlying2
  a2 := Tryz.isAgg2
  z2 := Tryz.sizeOf2
  v2 := Tryz.zeroValue2
  t3 := Tryz.underlying3
  a3 := Tryz.isAgg3
  z3 := Tryz.sizeOf3
  v3 := Tryz.zeroValue3
  t4 := Tryz.underlying4
  a4 := Tryz.isAgg4
  z4 := Tryz.sizeOf4
  v4 := Tryz.zeroValue4
  t5 := Tryz.underlying5
  a5 := Tryz.isAgg5
  z5 := Tryz.sizeOf5
  v5 := Tryz.zeroValue5
  t9 := Tryz.underlying9
  a9 := Tryz.isAgg9
  z9 := Tryz.sizeOf9
  v9 := Tryz.zeroValue9
  t20 := Tryz.underlying20
  a20 := Tryz.isAgg20
  z20 := Tryz.sizeOf20
  v20 := Tryz.zeroValue20
  t21 := Tryz.underlying21
  a21 := Tryz.isAgg21
  z21 := Tryz.sizeOf21
  v21 := Tryz.zeroValue21
  t37 := Tryz.underlying238
  a37 := Tryz.isAgg238
  z37 := Tryz.sizeOf238
  v37 := Tryz.zeroValue238
  t46 := Tryz.underlying189
  a46 := Tryz.isAgg189
  z46 := Tryz.sizeOf189
  v46 := Tryz.zeroValue189
  t51 := Tryz.underlying50
  a51 := Tryz.isAgg50
  z51 := Tryz.sizeOf50
  v51 := Tryz.zeroValue50
  t53 := Tryz.underlying22
  a53 := Tryz.isAgg22
  z53 := Tryz.sizeOf22
  v53 := Tryz.zeroValue22
  t75 := Tryz.underlying216
  a75 := Tryz.isAgg216
  z75 := Tryz.sizeOf216
  v75 := Tryz.zeroValue216
  t76 := Tryz.underlying217
  a76 := Tryz.isAgg217
  z76 := Tryz.sizeOf217
  v76 := Tryz.zeroValue217
  t85 := Tryz.underlying314
  a85 := Tryz.isAgg314
  z85 := Tryz.sizeOf314
  v85 := Tryz.zeroValue314
  t127 := Tryz.underlying332
  a127 := Tryz.isAgg332
  z127 := Tryz.sizeOf332
  v127 := Tryz.zeroValue332
  t143 := Tryz.underlying353
  a143 := Tryz.isAgg353
  z143 := Tryz.sizeOf353
  v143 := Tryz.zeroValue353
  t145 := Tryz.underlying355
  a145 := Tryz.isAgg355
  z145 := Tryz.sizeOf355
  v145 := Tryz.zeroValue355
  t167 := Tryz.underlying313
  a167 := Tryz.isAgg313
  z167 := Tryz.sizeOf313
  v167 := Tryz.zeroValue313
  t168 := Tryz.underlying316
  a168 := Tryz.isAgg316
  z168 := Tryz.sizeOf316
  v168 := Tryz.zeroValue316
  t171 := Tryz.underlying333
  a171 := Tryz.isAgg333
  z171 := Tryz.sizeOf333
  v171 := Tryz.zeroValue333
  t173 := Tryz.underlying335
  a173 := Tryz.isAgg335
  z173 := Tryz.sizeOf335
  v173 := Tryz.zeroValue335
  t175 := Tryz.underlying219
  a175 := Tryz.isAgg219
  z175 := Tryz.sizeOf219
  v175 := Tryz.zeroValue219
  t210 := Tryz.underlying339
  a210 := Tryz.isAgg339
  z210 := Tryz.sizeOf339
  v210 := Tryz.zeroValue339
  t212 := Tryz.underlying351
  a212 := Tryz.isAgg351
  z212 := Tryz.sizeOf351
  v212 := Tryz.zeroValue351
  t213 := Tryz.underlying352
  a213 := Tryz.isAgg352
  z213 := Tryz.sizeOf352
  t232 := Tryz.underlying363
  a232 := Tryz.isAgg363
  z232 := Tryz.sizeOf363
  v232 := Tryz.zeroValue363
  t233 := Tryz.underlying364
  a233 := Tryz.isAgg364
  z233 := Tryz.sizeOf364
  v233 := Tryz.zeroValue364
  g15 := by kernel_rfl
  g16 := by kernel_rfl
  g17 := by kernel_rfl
  g18 := by kernel_rfl
  g19 := by kernel_rfl
  t80 := Tryz.underlying312
  a80 := Tryz.isAgg312
  z80 := Tryz.sizeOf312
  v80 := Tryz.zeroValue312
  i0 := by kernel_rfl
  i2 := by kernel_rfl
  i3 := by kernel_rfl
  i4 := by kernel_rfl
  i5 := by kernel_rfl
  i9 := by kernel_rfl
  i20 := by kernel_rfl
  i21 := by kernel_rfl
  i37 := by kernel_rfl
  i46 := by kernel_rfl
  i51 := by kernel_rfl
  i53 := by kernel_rfl
  i75 := by kernel_rfl
  i76 := by kernel_rfl
  i80 := by kernel_rfl
  i85 := by kernel_rfl
  i127 := by kernel_rfl
  i143 := by kernel_rfl
  i145 := by kernel_rfl
  i167 := by kernel_rfl
  i168 := by kernel_rfl
  i171 := by kernel_rfl
  i173 := by kernel_rfl
  i175 := by kernel_rfl
  i210 := by kernel_rfl
  i212 := by kernel_rfl
  i232 := by kernel_rfl
  i233 := by kernel_rfl
  m15 := by kernel_rfl
  m16 := by kernel_rfl
  m17 := by kernel_rfl
  m18 := by kernel_rfl
  m19 := by kernel_rfl
  c0 := by kernel_rfl
  c2 := by kernel_rfl
  c3 := by kernel_rfl
  c4 := by kernel_rfl
  c5 := by kernel_rfl
  c9 := by kernel_rfl
  c20 := by kernel_rfl
  c21 := by kernel_rfl
  c37 := by kernel_rfl
  c46 := by kernel_rfl
  c51 := by kernel_rfl
  c53 := by kernel_rfl
  c75 := by kernel_rfl
  c76 := by kernel_rfl
  c80 := by kernel_rfl
  c85 := by kernel_rfl
  c127 := by kernel_rfl
  c143 := by kernel_rfl
  c145 := by kernel_rfl
  c167 := by kernel_rfl
  c168 := by kernel_rfl
  c171 := by kernel_rfl
  c173 := by kernel_rfl
  c175 := by kernel_rfl
  c210 := by kernel_rfl
  c212 := by kernel_rfl
  c213 := by kernel_rfl
  c232 := by kernel_rfl
  c233 := by kernel_rfl }
def Tryz.laySplit_ren : Go.Shelf.Ren := ⟨fun | 146 => 144 | 221 => 215 | 268 => 255 | 138 => 256 | 143 => 257 | 195 => 286 | 197 => 287 | 218 => 288 | 219 => 289 | 260 => 304 | 217 => 305 | 225 => 306 | 224 => 307 | 267 => 308 | 266 => 317 | 314 => 318 | n => n, fun | 9 => 9 | 31 => 37 | 3 => 3 | 4 => 4 | 0 => 0 | 105 => 328 | 21 => 21 | 5 => 5 | 46 => 189 | 119 => 357 | 139 => 360 | 138 => 359 | 146 => 361 | 51 => 50 | n => n, fun | 1 => 2 | 3 => 4 | 4 => 5 | n => n⟩
theorem Tryz.laySplit : Go.Proofs.Lays.n146 Tryz.prog Tryz.laySplit_ren := {
  mixed := by kernel_rfl
  f138 := Tryz.func256.trans (congrArg some (by kernel_rfl))
  f143 := Tryz.func257.trans (congrArg some (by kernel_rfl))
  f146 := Tryz.func144.trans (congrArg some (by kernel_rfl))
  f195 := Tryz.func286.trans (congrArg some (by kernel_rfl))
  f197 := Tryz.func287.trans (congrArg some (by kernel_rfl))
  f217 := Tryz.func305.trans (congrArg some (by kernel_rfl))
  f218 := Tryz.func288.trans (congrArg some (by kernel_rfl))
  f219 := Tryz.func289.trans (congrArg some (by kernel_rfl))
  f221 := Tryz.func215.trans (congrArg some (by kernel_rfl))
  f224 := Tryz.func307.trans (congrArg some (by kernel_rfl))
  f225 := Tryz.func306.trans (congrArg some (by kernel_rfl))
  f260 := Tryz.func304.trans (congrArg some (by kernel_rfl))
  f266 := Tryz.func317.trans (congrArg some (by kernel_rfl))
  f267 := Tryz.func308.trans (congrArg some (by kernel_rfl))
  f268 := Tryz.func255.trans (congrArg some (by kernel_rfl))
  f314 := Tryz.func318.trans (congrArg some (by kernel_rfl))
  t0 := Tryz.underlying0
  a0 := Tryz.isAgg0
  z0 := Tryz.sizeOf0
  v0 := Tryz.zeroValue0
  t3 := Tryz.underlying3
  a3 := Tryz.isAgg3
  z3 := Tryz.sizeOf3
  v3 := Tryz.zeroValue3
  t4 := Tryz.underlying4
  a4 := Tryz.isAgg4
  z4 := Tryz.sizeOf4
  v4 := Tryz.zeroValue4
  t5 := Tryz.underlying5
  a5 := Tryz.isAgg5
  z5 := Tryz.sizeOf5
  v5 := Tryz.zeroValue5
  t9 := Tryz.underlying9
  a9 := Tryz.isAgg9
  z9 := Tryz.sizeOf9
  v9 := Tryz.zeroValue9
  t21 := Tryz.underlying21
  a21 := Tryz.isAgg21
  z21 := Tryz.sizeOf21
  v21 := Tryz.zeroValue21
  t31 := Tryz.underlying37
  a31 := Tryz.isAgg37
  z31 := Tryz.sizeOf37
  v31 := Tryz.zeroValue37
  t46 := Tryz.underlying189
  a46 := Tryz.isAgg189
  z46 := Tryz.sizeOf189
  v46 := Tryz.zeroValue189
  t51 := Tryz.underlying50
  a51 := Tryz.isAgg50
  z51 := Tryz.sizeOf50
  v51 := Tryz.zeroValue50
  t105 := Tryz.underlying328
  a105 := Tryz.isAgg328
  z105 := Tryz.sizeOf328
  v105 := Tryz.zeroValue328
  t119 := Tryz.underlying357
  a119 := Tryz.isAgg357
  z119 := Tryz.sizeOf357
  t138 := Tryz.underlying359
  a138 := Tryz.isAgg359
  z138 := Tryz.sizeOf359
  v138 := Tryz.zeroValue359
  t139 := Tryz.underlying360
  a139 := Tryz.isAgg360
  z139 := Tryz.sizeOf360
  v139 := Tryz.zeroValue360
  t146 := Tryz.underlying361
  a146 := Tryz.isAgg361
  z146 := Tryz.sizeOf361
  v146 := Tryz.zeroValue361
  g1 := by kernel_rfl
  g3 := by kernel_rfl
  g4 := by kernel_rfl }
def Tryz.layCut_ren : Go.Shelf.Ren := ⟨fun | 145 => 224 | 220 => 270 | 219 => 289 | 217 => 305 | 225 => 306 | 224 => 307 | 267 => 308 | 266 => 317 | 314 => 318 | n => n, fun | 9 => 9 | 4 => 4 | 59 => 277 | 3 => 3 | 5 => 5 | 46 => 189 | 146 => 361 | 51 => 50 | n => n, fun | 1 => 2 | n => n⟩
theorem Tryz.layCut : Go.Proofs.Lays.n145 Tryz.prog Tryz.layCut_ren := {
  mixed := by kernel_rfl
  f145 := Tryz.func224.trans (congrArg some (by kernel_rfl))
  f217 := Tryz.func305.trans (congrArg some (by kernel_rfl))
  f219 := Tryz.func289.trans (congrArg some (by kernel_rfl))
  f220 := Tryz.func270.trans (congrArg some (by kernel_rfl))
  f224 := Tryz.func307.trans (congrArg some (by kernel_rfl))
  f225 := Tryz.func306.trans (congrArg some (by kernel_rfl))
  f266 := Tryz.func317.trans (congrArg some (by kernel_rfl))
  f267 := Tryz.func308.trans (congrArg some (by kernel_rfl))
  f314 := Tryz.func318.trans (congrArg some (by kernel_rfl))
  t3 := Tryz.underlying3
  a3 := Tryz.isAgg3
  z3 := Tryz.sizeOf3
  v3 := Tryz.zeroValue3
  t4 := Tryz.underlying4
  a4 := Tryz.isAgg4
  z4 := Tryz.sizeOf4
  v4 := Tryz.zeroValue4
  t5 := Tryz.underlying5
  a5 := Tryz.isAgg5
  z5 := Tryz.sizeOf5
  v5 := Tryz.zeroValue5
  t9 := Tryz.underlying9
  a9 := Tryz.isAgg9
  z9 := Tryz.sizeOf9
  v9 := Tryz.zeroValue9
  t46 := Tryz.underlying189
  a46 := Tryz.isAgg189
  z46 := Tryz.sizeOf189
  v46 := Tryz.zeroValue189
  t51 := Tryz.underlying50
  a51 := Tryz.isAgg50
  z51 := Tryz.sizeOf50
  v51 := Tryz.zeroValue50
  t59 := Tryz.underlying277
  a59 := Tryz.isAgg277
  z59 := Tryz.sizeOf277
  v59 := Tryz.zeroValue277
  t146 := Tryz.underlying361
  a146 := Tryz.isAgg361
  z146 := Tryz.sizeOf361
  v146 := Tryz.zeroValue361
  g1 := by kernel_rfl }
def Tryz.layContains_ren : Go.Shelf.Ren := ⟨fun | 144 => 225 | 143 => 257 | 219 => 289 | 217 => 305 | 225 => 306 | 224 => 307 | 267 => 308 | 266 => 317 | 314 => 318 | n => n, fun | 9 => 9 | 4 => 4 | 3 => 3 | 5 => 5 | 46 => 189 | 146 => 361 | 51 => 50 | n => n, fun | 1 => 2 | n => n⟩
theorem Tryz.layContains : Go.Proofs.Lays.n144 Tryz.prog Tryz.layContains_ren := {
  mixed := by kernel_rfl
  f143 := Tryz.func257.trans (congrArg some (by kernel_rfl))
  f144 := Tryz.func225.trans (congrArg some (by kernel_rfl))
  f217 := Tryz.func305.trans (congrArg some (by kernel_rfl))
  f219 := Tryz.func289.trans (congrArg some (by kernel_rfl))
  f224 := Tryz.func307.trans (congrArg some (by kernel_rfl))
  f225 := Tryz.func306.trans (congrArg some (by kernel_rfl))
  f266 := Tryz.func317.trans (congrArg some (by kernel_rfl))
  f267 := Tryz.func308.trans (congrArg some (by kernel_rfl))
  f314 := Tryz.func318.trans (congrArg some (by kernel_rfl))
  t3 := Tryz.underlying3
  a3 := Tryz.isAgg3
  z3 := Tryz.sizeOf3
  v3 := Tryz.zeroValue3
  t4 := Tryz.underlying4
  a4 := Tryz.isAgg4
  z4 := Tryz.sizeOf4
  v4 := Tryz.zeroValue4
  t5 := Tryz.underlying5
  a5 := Tryz.isAgg5
  z5 := Tryz.sizeOf5
  v5 := Tryz.zeroValue5
  t9 := Tryz.underlying9
  a9 := Tryz.isAgg9
  z9 := Tryz.sizeOf9
  v9 := Tryz.zeroValue9
  t46 := Tryz.underlying189
  a46 := Tryz.isAgg189
  z46 := Tryz.sizeOf189
  v46 := Tryz.zeroValue189
  t51 := Tryz.underlying50
  a51 := Tryz.isAgg50
  z51 := Tryz.sizeOf50
  v51 := Tryz.zeroValue50
  t146 := Tryz.underlying361
  a146 := Tryz.isAgg361
  z146 := Tryz.sizeOf361
  v146 := Tryz.zeroValue361
  g1 := by kernel_rfl }
def Tryz.layPu_ren : Go.Shelf.Ren := ⟨fun | 14 => 152 | 16 => 222 | 17 => 221 | 19 => 268 | 20 => 269 | 21 => 264 | 22 => 265 | 23 => 266 | 24 => 267 | 25 => 297 | 27 => 216 | 26 => 298 | 28 => 258 | 29 => 290 | 30 => 293 | 31 => 294 | 32 => 295 | 33 => 296 | 35 => 207 | 34 => 311 | 36 => 312 | 37 => 313 | 38 => 314 | 39 => 319 | 40 => 320 | n => n, fun | 9 => 9 | 3 => 3 | 22 => 22 | 24 => 216 | 25 => 219 | 4 => 4 | 34 => 313 | 5 => 5 | 36 => 189 | 37 => 238 | 0 => 0 | 39 => 316 | 21 => 21 | 44 => 339 | 47 => 332 | 50 => 355 | 48 => 353 | 2 => 2 | 52 => 333 | 55 => 335 | 59 => 351 | 60 => 50 | 20 => 20 | 61 => 352 | 65 => 363 | 66 => 364 | 67 => 312 | n => n, fun | 0 => 0 | 1 => 1 | 2 => 3 | 3 => 6 | 4 => 7 | n => n⟩
theorem Tryz.layPu : Go.Proofs.LaysPu.n14 Tryz.prog Tryz.layPu_ren := {
  mixed := by kernel_rfl
  f14 := Tryz.func152.trans (congrArg some (by kernel_rfl))
  f16 := Tryz.func222.trans (congrArg some (by kernel_rfl))
  f17 := Tryz.func221.trans (congrArg some (by kernel_rfl))
  f19 := Tryz.func268.trans (congrArg some (by kernel_rfl))
  f20 := Tryz.func269.trans (congrArg some (by kernel_rfl))
  f21 := Tryz.func264.trans (congrArg some (by kernel_rfl))
  f22 := Tryz.func265.trans (congrArg some (by kernel_rfl))
  f23 := Tryz.func266.trans (congrArg some (by kernel_rfl))
  f24 := Tryz.func267.trans (congrArg some (by kernel_rfl))
  f25 := Tryz.func297.trans (congrArg some (by kernel_rfl))
  f26 := Tryz.func298.trans (congrArg some (by kernel_rfl))
  f27 := Tryz.func216.trans (congrArg some (by kernel_rfl))
  f28 := Tryz.func258.trans (congrArg some (by kernel_rfl))
  f29 := Tryz.func290.trans (congrArg some (by kernel_rfl))
  f30 := Tryz.func293.trans (congrArg some (by kernel_rfl))
  f31 := Tryz.func294.trans (congrArg some (by kernel_rfl))
  f32 := Tryz.func295.trans (congrArg some (by kernel_rfl))
  f33 := Tryz.func296.trans (congrArg some (by kernel_rfl))
  f34 := Tryz.func311.trans (congrArg some (by kernel_rfl))
  f35 := Tryz.func207.trans (congrArg some (by kernel_rfl))
  f36 := Tryz.func312.trans (congrArg some (by kernel_rfl))
  f37 := Tryz.func313.trans (congrArg some (by kernel_rfl))
  f38 := Tryz.func314.trans (congrArg some (by kernel_rfl))
  f39 := Tryz.func319.trans (congrArg some (by kernel_rfl))
  f40 := Tryz.func320.trans (congrArg some (by kernel_rfl))
  t0 := Tryz.underlying0
  a0 := Tryz.isAgg0
  z0 := Tryz.sizeOf0
  v0 := Tryz.zeroValue0
  i0 := by kernel_rfl
  t2 := Tryz.underlying2
  a2 := Tryz.isAgg2
  z2 := Tryz.sizeOf2
  v2 := Tryz.zeroValue2
  i2 := by kernel_rfl
  t3 := Tryz.underlying3
  a3 := Tryz.isAgg3
  z3 := Tryz.sizeOf3
  v3 := Tryz.zeroValue3
  i3 := by kernel_rfl
  t4 := Tryz.underlying4
  a4 := Tryz.isAgg4
  z4 := Tryz.sizeOf4
  v4 := Tryz.zeroValue4
  i4 := by kernel_rfl
  t5 := Tryz.underlying5
  a5 := Tryz.isAgg5
  z5 := Tryz.sizeOf5
  v5 := Tryz.zeroValue5
  i5 := by kernel_rfl
  t9 := Tryz.underlying9
  a9 := Tryz.isAgg9
  z9 := Tryz.sizeOf9
  v9 := Tryz.zeroValue9
  i9 := by kernel_rfl
  t20 := Tryz.underlying20
  a20 := Tryz.isAgg20
  z20 := Tryz.sizeOf20
  v20 := Tryz.zeroValue20
  i20 := by kernel_rfl
  t21 := Tryz.underlying21
  a21 := Tryz.isAgg21
  z21 := Tryz.sizeOf21
  v21 := Tryz.zeroValue21
  i21 := by kernel_rfl
  t22 := Tryz.underlying22
  a22 := Tryz.isAgg22
  z22 := Tryz.sizeOf22
  v22 := Tryz.zeroValue22
  i22 := by kernel_rfl
  t24 := Tryz.underlying216
  a24 := Tryz.isAgg216
  z24 := Tryz.sizeOf216
  v24 := Tryz.zeroValue216
  i24 := by kernel_rfl
  t25 := Tryz.underlying219
  a25 := Tryz.isAgg219
  z25 := Tryz.sizeOf219
  v25 := Tryz.zeroValue219
  i25 := by kernel_rfl
  t34 := Tryz.underlying313
  a34 := Tryz.isAgg313
  z34 := Tryz.sizeOf313
  v34 := Tryz.zeroValue313
  i34 := by kernel_rfl
  c34 := by kernel_rfl
  t36 := Tryz.underlying189
  a36 := Tryz.isAgg189
  z36 := Tryz.sizeOf189
  v36 := Tryz.zeroValue189
  i36 := by kernel_rfl
  t37 := Tryz.underlying238
  a37 := Tryz.isAgg238
  z37 := Tryz.sizeOf238
  v37 := Tryz.zeroValue238
  i37 := by kernel_rfl
  t39 := Tryz.underlying316
  a39 := Tryz.isAgg316
  z39 := Tryz.sizeOf316
  v39 := Tryz.zeroValue316
  i39 := by kernel_rfl
  t44 := Tryz.underlying339
  a44 := Tryz.isAgg339
  z44 := Tryz.sizeOf339
  v44 := Tryz.zeroValue339
  i44 := by kernel_rfl
  t47 := Tryz.underlying332
  a47 := Tryz.isAgg332
  z47 := Tryz.sizeOf332
  v47 := Tryz.zeroValue332
  i47 := by kernel_rfl
  t48 := Tryz.underlying353
  a48 := Tryz.isAgg353
  z48 := Tryz.sizeOf353
  v48 := Tryz.zeroValue353
  i48 := by kernel_rfl
  t50 := Tryz.underlying355
  a50 := Tryz.isAgg355
  z50 := Tryz.sizeOf355
  v50 := Tryz.zeroValue355
  i50 := by kernel_rfl
  t52 := Tryz.underlying333
  a52 := Tryz.isAgg333
  z52 := Tryz.sizeOf333
  v52 := Tryz.zeroValue333
  i52 := by kernel_rfl
  t55 := Tryz.underlying335
  a55 := Tryz.isAgg335
  z55 := Tryz.sizeOf335
  v55 := Tryz.zeroValue335
  i55 := by kernel_rfl
  t59 := Tryz.underlying351
  a59 := Tryz.isAgg351
  z59 := Tryz.sizeOf351
  v59 := Tryz.zeroValue351
  i59 := by kernel_rfl
  t60 := Tryz.underlying50
  a60 := Tryz.isAgg50
  z60 := Tryz.sizeOf50
  v60 := Tryz.zeroValue50
  i60 := by kernel_rfl
  t61 := Tryz.underlying352
  a61 := Tryz.isAgg352
  z61 := Tryz.sizeOf352
  t65 := Tryz.underlying363
  a65 := Tryz.isAgg363
  z65 := Tryz.sizeOf363
  v65 := Tryz.zeroValue363
  i65 := by kernel_rfl
  t66 := Tryz.underlying364
  a66 := Tryz.isAgg364
  z66 := Tryz.sizeOf364
  v66 := Tryz.zeroValue364
  i66 := by kernel_rfl
  t67 := Tryz.underlying312
  a67 := Tryz.isAgg312
  z67 := Tryz.sizeOf312
  v67 := Tryz.zeroValue312
  i67 := by kernel_rfl
  g0 := by kernel_rfl
  m0 := by kernel_rfl
  g1 := by kernel_rfl
  m1 := by kernel_rfl
  g2 := by kernel_rfl
  m2 := by kernel_rfl
  g3 := by kernel_rfl
  m3 := by kernel_rfl
  g4 := by kernel_rfl
  m4 := by kernel_rfl }
end Go.Proofs
end
section
namespace Go.Proofs.T
open Go Go.AM Go.Proofs Go.Lib
set_option maxRecDepth 20000
variable {Γ : List (Nat × List AVal)}
structure GT (Γ : List (Nat × List AVal)) : Prop where
  pow : AM.look Γ 3 = some (Lib.pow10Tab.map fun z => .lit (.int .u64 z))
  errS : ∃ te pe, AM.look Γ 0 = some [.lit (.iface te pe)]
  errR : ∃ te pe, AM.look Γ 1 = some [.lit (.iface te pe)]
  maxL : ∃ m, AM.look Γ 2 = some [.lit (.int .i64 m)]
theorem itoa_c (hG : GT Γ) (n : Int) (h0 : -9223372036854775808 ≤ n) (h1 : n ≤ 9223372036854775807) : Pure Tryz.prog Γ 216 [.lit (.int .i64 n)] (.lit (.string (ByteArray.mk (itoa n).toArray))) :=
  Pure_Itoa (g := 3) Tryz.layItoa (by kernel_rfl) hG.pow n h0 h1
theorem atoi_c (hG : GT Γ) (l : List UInt8) (hl : l.length ≤ 281474976710656) : Pure Tryz.prog Γ 150 [.lit (.string (ByteArray.mk l.toArray))] (.tup [.lit (.int .i64 (atoiV l)), .junk]) := by
  obtain ⟨te, pe, h1⟩ := hG.errS
  obtain ⟨te', pe', h2⟩ := hG.errR
  exact Pure_Atoi Tryz.layAtoi h1 h2 l hl
theorem split_c (hG : GT Γ) (l : List UInt8) (hl : l.length < 4294967281) : Pure Tryz.prog Γ 144 [.lit (.string (ByteArray.mk l.toArray)), .lit (.string (ByteArray.mk [(32 : UInt8)].toArray))] (strs (split l [32])) := by
  obtain ⟨m, h1⟩ := hG.maxL
  exact Pure_Split Tryz.laySplit (by kernel_rfl) h1 l [32] hl (by simp)
def dInv (n : Nat) (x : Nat × List UInt8) : Prop := (x.2 = [] ∧ x.1 = n) ∨ (x.2 ≠ [] ∧ ((x.1 = 0 ∧ x.2 = decDigits n) ∨ (0 < x.1 ∧ decDigits x.1 ++ x.2 = decDigits n)))
theorem dInv_next {n : Nat} {x : Nat × List UInt8} (h : dInv n x) (hc : x.2 = [] ∨ 0 < x.1) : dInv n (x.1 / 10, UInt8.ofNat (48 + x.1 % 10) :: x.2) := by
  refine .inr ⟨by simp, ?_⟩
  obtain ⟨m, o⟩ := x
  simp only at *
  by_cases h10 : m < 10
  · refine .inl ⟨by omega, ?_⟩
    have e : m % 10 = m := by omega
    rcases h with ⟨rfl, rfl⟩ | ⟨h1, ⟨h2, _⟩ | ⟨h2, h3⟩⟩
    · rw [e, dec_lt10 h10]
    · rcases hc with hc | hc
      · exact absurd hc h1
      · omega
    · rw [e, ← h3, dec_lt10 h10]; rfl
  · refine .inr ⟨by omega, ?_⟩
    rcases h with ⟨rfl, rfl⟩ | ⟨h1, ⟨h2, _⟩ | ⟨h2, h3⟩⟩
    · rw [dec_big h10]
    · omega
    · rw [← h3, dec_big h10, List.append_assoc]; rfl
theorem dInv_end {n : Nat} {x : Nat × List UInt8} (h : dInv n x) (hc : x.2 ≠ []) (hc' : x.1 = 0) : x.2 = decDigits n := by
  rcases h with ⟨h, _⟩ | ⟨_, ⟨_, h⟩ | ⟨h, _⟩⟩
  · exact absurd h hc
  · exact h
  · omega
theorem dInv_len {n : Nat} {x : Nat × List UInt8} (h : dInv n x) : x.2.length ≤ (decDigits n).length := by
  rcases h with ⟨h, _⟩ | ⟨_, ⟨_, h⟩ | ⟨_, h⟩⟩
  · rw [h]; simp
  · rw [h]; exact Nat.le_refl _
  · rw [← h, List.length_append]; omega
theorem wrap_i32 {n : Int} (h1 : -2147483648 ≤ n) (h2 : n ≤ 2147483647) : IntKind.i32.wrap n = n := by
  simp [IntKind.wrap, IntKind.bits, IntKind.signed]; omega
theorem drop_at {s : List UInt8} {i : Nat} (h : i < s.length) : s.drop i = s.getD i 0 :: s.drop (i + 1) := by
  rw [List.drop_eq_getElem_cons h]; simp [List.getD, h]
theorem head_getD {s : List UInt8} : (0 < s.length ∧ (s.getD 0 0).toNat = 48) ↔ s.head? = some 48 := by
  cases s with
  | nil => simp
  | cons c r =>
    simp only [List.length_cons, Nat.zero_lt_succ, true_and, List.getD_cons_zero, List.head?_cons, Option.some.injEq]
    exact ⟨fun h => UInt8.toNat_inj.1 (by rw [h]; rfl), fun h => by rw [h]; rfl⟩
end Go.Proofs.T
end
