import Derived.Test.YtkiadljldlppbaaGreatDoorZAA
set_option linter.unusedVariables false
set_option linter.unusedSimpArgs false
section
namespace Go.AM
def VL (w : World) (G : Nat → Prop) (ρ : Names) (A : Allow) (cells : List AVal) (cs : Array Value) : Prop :=
  cells.length = cs.size ∧ ∀ (j : Nat) v, cells[j]? = some v → V w G ρ A v (cs.getD j undef)
def fillA (place : Nat → Option (Nat × Nat)) (cells : List AVal) : List (Nat × AVal) → Option (List AVal)
  | [] => some cells
  | (i, v) :: rest => match place i, acells v with
    | some (off, size), some vs => if vs.length = size ∧ off + size ≤ cells.length then fillA place (setPart cells vs off) rest else none
    | _, _ => none
theorem fold_set (off : Nat) : ∀ (l : List Value) (start : Nat) (cs : Array Value),
    ((l.zipIdx start).foldl (fun (cs : Array Value) (x : Value × Nat) => cs.setIfInBounds (off + x.2) x.1) cs).size = cs.size ∧
    ∀ i, ((l.zipIdx start).foldl (fun (cs : Array Value) (x : Value × Nat) => cs.setIfInBounds (off + x.2) x.1) cs)[i]? =
      if off + start ≤ i ∧ i < off + start + l.length ∧ i < cs.size then l[i - off - start]? else cs[i]?
  | [], start, cs => by
    refine ⟨rfl, fun i => ?_⟩
    rw [if_neg (by simp; omega)]; rfl
  | x :: r, start, cs => by
    obtain ⟨h1, h2⟩ := fold_set off r (start + 1) (cs.setIfInBounds (off + start) x)
    simp only [List.zipIdx_cons, List.foldl_cons]
    refine ⟨by rw [h1]; simp, fun i => ?_⟩
    rw [h2]
    by_cases hi : i = off + start
    · subst hi
      rw [if_neg (by omega)]
      by_cases hs : off + start < cs.size
      · rw [if_pos ⟨by omega, by simp, hs⟩, Array.getElem?_setIfInBounds_self_of_lt hs]
        have : off + start - off - start = 0 := by omega
        rw [this]; rfl
      · rw [if_neg (by omega), Array.getElem?_eq_none (by simp; omega), Array.getElem?_eq_none (by omega)]
    · rw [Array.getElem?_setIfInBounds_ne (fun e => hi e.symm)]
      by_cases hc : off + start ≤ i ∧ i < off + start + (x :: r).length ∧ i < cs.size
      · rw [if_pos hc, if_pos ⟨by omega, by simp at hc; omega, by simp; omega⟩]
        have e : i - off - start = (i - off - (start + 1)) + 1 := by omega
        rw [e, List.getElem?_cons_succ]
      · rw [if_neg hc, if_neg (by simp at hc ⊢; omega)]
theorem fill_V {w : World} {G : Nat → Prop} {ρ : Names} {A : Allow} (place : Nat → Option (Nat × Nat)) : ∀ (parts : List (Nat × AVal)) (cparts : List (Nat × Value)) (cells cells' : List AVal) (cs : Array Value), VL w G ρ A cells cs →
    parts.length = cparts.length → (∀ (j : Nat) p cp, parts[j]? = some p → cparts[j]? = some cp → p.1 = cp.1 ∧ V w G ρ A p.2 cp.2) → fillA place cells parts = some cells' →
    ∃ cs', Instr.fill place cs cparts = some cs' ∧ VL w G ρ A cells' cs'
  | [], cparts, cells, cells', cs, hv, hl, hp, hf => by
    cases cparts with
    | nil => cases hf; exact ⟨cs, rfl, hv⟩
    | cons => simp at hl
  | (i, v) :: rest, cparts, cells, cells', cs, hv, hl, hp, hf => by
    cases cparts with
    | nil => simp at hl
    | cons cp crest =>
      obtain ⟨i', cv⟩ := cp
      obtain ⟨he, hV⟩ := hp 0 _ _ rfl rfl
      simp only at he hV
      subst he
      simp only [fillA] at hf
      split at hf
      · rename_i off size vs h1 h2
        split at hf
        · rename_i hc
          obtain ⟨h3, h4⟩ := acells_V hV h2
          have hfold := fold_set off cv.cells.toList 0 cs
          simp only [Nat.add_zero, Nat.sub_zero] at hfold
          have hvl : VL w G ρ A (setPart cells vs off) (cv.cells.zipIdx.foldl (fun (cs : Array Value) (x : Value × Nat) => cs.setIfInBounds (off + x.2) x.1) cs) := by
            rw [← Array.foldl_toList, Array.toList_zipIdx]
            refine ⟨by rw [hfold.1, ← hv.1]; unfold setPart; simp; omega, fun j u hj => ?_⟩
            unfold setPart at hj
            rw [seg_get (by omega)] at hj
            rw [Array.getD_eq_getD_getElem?, hfold.2]
            by_cases h5 : j < off
            · rw [if_pos h5] at hj
              rw [if_neg (by omega), ← Array.getD_eq_getD_getElem?]
              exact hv.2 j u hj
            · rw [if_neg h5] at hj
              by_cases h6 : j < off + vs.length
              · rw [if_pos h6] at hj
                rw [if_pos ⟨by omega, by simp; omega, by rw [← hv.1]; omega⟩, Array.getElem?_toList, ← Array.getD_eq_getD_getElem?]
                exact h4 _ u hj
              · rw [if_neg h6] at hj
                rw [if_neg (by simp; omega), ← Array.getD_eq_getD_getElem?]
                exact hv.2 j u hj
          obtain ⟨cs', h5, h6⟩ := fill_V place rest crest _ cells' _ hvl (by simpa using hl) (fun j p cp hj hcj => hp (j + 1) p cp (by simpa using hj) (by simpa using hcj)) hf
          refine ⟨cs', ?_, h6⟩
          simp only [Instr.fill, h1]
          rw [if_neg (by simp; rw [← hv.1]; omega)]
          exact h5
        · cases hf
      · cases hf
def evParts (ev : Operand → Option AVal) : List (Nat × Operand) → Option (List (Nat × AVal))
  | [] => some []
  | (i, x) :: r => match ev x, evParts ev r with
    | some v, some vs => some ((i, v) :: vs)
    | _, _ => none
theorem evParts_spec {ev : Operand → Option AVal} : ∀ {ps : List (Nat × Operand)} {vs : List (Nat × AVal)}, evParts ev ps = some vs → vs.length = ps.length ∧ ∀ (j : Nat) v p, vs[j]? = some v → ps[j]? = some p → v.1 = p.1 ∧ ev p.2 = some v.2
  | [], vs, h => by cases h; exact ⟨rfl, fun j v p hv => by simp at hv⟩
  | (i, x) :: r, vs, h => by
    simp only [evParts] at h
    split at h
    · rename_i v vs' h1 h2
      cases h
      obtain ⟨h3, h4⟩ := evParts_spec h2
      refine ⟨by simp [h3], fun j u p hu hp => ?_⟩
      cases j with
      | zero => cases hu; cases hp; exact ⟨rfl, h1⟩
      | succ j => exact h4 j u p (by simpa using hu) (by simpa using hp)
    · cases h
def placesOf (P : Program) (t : TypeId) : Option (Array (Nat × Nat)) :=
  match P.underlying t with
  | some (.struct fields) => pureRun P (fields.mapM fun f => do pure (f.offset, ← sizeOf f.type))
  | some (.array n e) => (tsz P e).map fun s => (Array.range n).map fun i => (i * s, s)
  | _ => none
section
variable {P : Program} {Γ : List (Nat × List AVal)} {o : Oper} {ev : Operand → Option AVal} {get : Nat → Option Blk} {k : Nat}
theorem zcells_spec {t : Nat} {cells : List AVal} (h : zcells P t = some cells) : ∃ i z, P.info? t = some i ∧ i.zero = some z ∧ cells = z.cells.toList.map .lit := by
  simp only [zcells, Option.map_eq_some_iff, Option.bind_eq_some_iff] at h
  obtain ⟨z, ⟨i, hi, hz⟩, rfl⟩ := h
  exact ⟨i, z, hi, hz, rfl⟩
theorem VL_lits {w : World} {G : Nat → Prop} {ρ : Names} {A : Allow} (cs : Array Value) : VL w G ρ A (cs.toList.map .lit) cs := by
  refine ⟨by simp, fun j u hj => ?_⟩
  simp only [List.getElem?_map, Option.map_eq_some_iff] at hj
  obtain ⟨x, hx, rfl⟩ := hj
  have : cs.getD j undef = x := by rw [Array.getD_eq_getD_getElem?, ← Array.getElem?_toList, hx]; rfl
  rw [this]; exact .lit
theorem parts_V {w : World} {G : Nat → Prop} {ρ : Names} {A : Allow} {a : Act} {parts : Array (Nat × Operand)} {vs : List (Nat × AVal)} (he : evParts ev parts.toList = some vs)
    (hop : ∀ x, x ∈ (parts.toList.map (·.2)).toArray → ∀ v, ev x = some v → V w G ρ A v (a.eval x)) :
    vs.length = (parts.map fun (p : Nat × Operand) => (p.1, a.eval p.2)).toList.length ∧ ∀ (j : Nat) p cp, vs[j]? = some p → (parts.map fun (p : Nat × Operand) => (p.1, a.eval p.2)).toList[j]? = some cp → p.1 = cp.1 ∧ V w G ρ A p.2 cp.2 := by
  obtain ⟨h1, h2⟩ := evParts_spec he
  refine ⟨by simp [h1], fun j p cp hp hcp => ?_⟩
  simp only [Array.toList_map, List.getElem?_map, Option.map_eq_some_iff] at hcp
  obtain ⟨q, hq, rfl⟩ := hcp
  obtain ⟨h3, h4⟩ := h2 j p q hp hq
  exact ⟨h3, hop q.2 (by simp only [List.mem_toArray, List.mem_map]; exact ⟨q, List.mem_of_getElem? hq, rfl⟩) _ h4⟩
theorem build_ok {t : Nat} {parts : Array (Nat × Operand)} {vs : List (Nat × AVal)} {cells cells' : List AVal} {pl : Array (Nat × Nat)} (ho : o.op = .build t parts) (hz : zcells P t = some cells) (hpl : placesOf P t = some pl)
    (hs : ∃ fields, P.underlying t = some (.struct fields)) (he : evParts ev parts.toList = some vs) (hf : fillA (pl[·]?) cells vs = some cells') : OpOk P Γ o ev get k ⟨.agg cells', k, [], []⟩ := by
  refine OpOk_quiet fun w G ρ H A a hr _ hop => ?_
  obtain ⟨i, z, hi, hzz, rfl⟩ := zcells_spec hz
  obtain ⟨fields, hu⟩ := hs
  simp only [placesOf, hu] at hpl
  have hpl' := pureRun_run P w _ _ hpl
  obtain ⟨h1, h2⟩ := parts_V (w := w) (G := G) (ρ := ρ) (A := A) (a := a) he (fun x hx v hv => hop x (by simpa [ho, Op.operands] using hx) v hv)
  obtain ⟨cs', h3, h4⟩ := fill_V (pl[·]?) vs _ _ cells' z.cells (VL_lits z.cells) h1 h2 hf
  refine ⟨.agg cs', ?_, .agg h4.1 h4.2⟩
  simp only [execOp, ho, Instr.build, zeroValue, typeInfo, Sem.run_bind, run_program, Result.andThen_ok, hi, Sem.run_pure, hzz, underlying, hu, hpl', h3]
theorem build_arr_ok {t n e s : Nat} {parts : Array (Nat × Operand)} {vs : List (Nat × AVal)} {cells cells' : List AVal} (ho : o.op = .build t parts) (hz : zcells P t = some cells) (hu : P.underlying t = some (.array n e))
    (hs : tsz P e = some s) (he : evParts ev parts.toList = some vs) (hf : fillA (fun i => some (i * s, s)) cells vs = some cells') : OpOk P Γ o ev get k ⟨.agg cells', k, [], []⟩ := by
  refine OpOk_quiet fun w G ρ H A a hr _ hop => ?_
  obtain ⟨i, z, hi, hzz, rfl⟩ := zcells_spec hz
  simp only [tsz, Option.map_eq_some_iff] at hs
  obtain ⟨inf, hinf, rfl⟩ := hs
  obtain ⟨h1, h2⟩ := parts_V (w := w) (G := G) (ρ := ρ) (A := A) (a := a) he (fun x hx v hv => hop x (by simpa [ho, Op.operands] using hx) v hv)
  obtain ⟨cs', h3, h4⟩ := fill_V (fun i => some (i * inf.size, inf.size)) vs _ _ cells' z.cells (VL_lits z.cells) h1 h2 hf
  refine ⟨.agg cs', ?_, .agg h4.1 h4.2⟩
  simp only [execOp, ho, Instr.build, zeroValue, typeInfo, Sem.run_bind, run_program, Result.andThen_ok, hi, Sem.run_pure, hzz, underlying, hu, sizeOf, hinf, h3]
theorem buildSlice_ok {t len s by' : Nat} {parts : Array (Nat × Operand)} {vs : List (Nat × AVal)} {zrow cells' : List AVal} (ho : o.op = .buildSlice t len parts) (hz : ezero P t = some (s, by', zrow))
    (hsmall : len * s ≤ 16777216) (he : evParts ev parts.toList = some vs) (hf : fillA (fun i => some (i * s, s)) (List.replicate len zrow).flatten vs = some cells') (hlen : cells'.length = len * s) :
    OpOk P Γ o ev get k ⟨.sl k 0 len, k + 1, [(k, some ⟨s, cells'.all clean, chunks s len cells'⟩)], []⟩ := by
  refine OpOk_new (cells := cells') ⟨fun r row hr => chunks_len hlen hr, fun r row c v hr hc => chunks_cell hr hc⟩ (fun h => h) fun w G ρ H A a hr _ hop => ?_
  unfold ezero at hz
  split at hz
  · rename_i e hu
    split at hz
    · rename_i i hi
      split at hz
      · rename_i z hzz
        split at hz
        · rename_i hsz
          cases hz
          obtain ⟨h1, h2⟩ := parts_V (w := w) (G := G) (ρ := ρ) (A := A) (a := a) he (fun x hx v hv => hop x (by simpa [ho, Op.operands] using hx) v hv)
          have hmade : (madeCells z.cells (len * i.size)).toList.map AVal.lit = (List.replicate len (z.cells.toList.map AVal.lit)).flatten := by
            apply List.ext_getElem?
            intro j
            by_cases hj : j < len * i.size
            · have hc : j % i.size < i.size := Nat.mod_lt _ hsz.2
              have hr' : j / i.size < len := Nat.div_lt_of_lt_mul (by rw [Nat.mul_comm]; exact hj)
              have e0 : j = (j / i.size) * i.size + j % i.size := by have := Nat.div_add_mod j i.size; rw [Nat.mul_comm] at this; omega
              rw [List.getElem?_map, Array.getElem?_toList]
              have e1 := madeCells_get (n := len) hsz.1 hsz.2 hr' hc
              rw [← e0] at e1
              rw [e1]
              have : ∀ (m : Nat) (row : List AVal) (r c : Nat), c < row.length → r < m → (List.replicate m row).flatten[r * row.length + c]? = row[c]? := by
                intro m
                induction m with
                | zero => intro row r c _ h; omega
                | succ m ih =>
                  intro row r c hc' hr''
                  rw [List.replicate_succ, List.flatten_cons]
                  cases r with
                  | zero => rw [List.getElem?_append_left (by omega)]; simp
                  | succ r =>
                    rw [List.getElem?_append_right (by rw [Nat.add_mul]; omega)]
                    have : (r + 1) * row.length + c - row.length = r * row.length + c := by rw [Nat.add_mul]; omega
                    rw [this]; exact ih row r c hc' (by omega)
              have e2 := this len (z.cells.toList.map AVal.lit) (j / i.size) (j % i.size) (by simp [hsz.1]; exact hc) hr'
              simp only [List.length_map, Array.length_toList, hsz.1] at e2
              rw [← e0] at e2
              rw [e2, List.getElem?_map, Array.getElem?_toList]
            · rw [List.getElem?_eq_none (by simp [size_madeCells]; omega), List.getElem?_eq_none (by simp [hsz.1]; omega)]
          obtain ⟨cs', h3, h4⟩ := fill_V (fun j => some (j * i.size, i.size)) vs _ _ cells' (madeCells z.cells (len * i.size)) (by rw [← hmade]; exact VL_lits _) h1 h2 hf
          have hsm : ¬ (len * i.size > 2 ^ 24) := by omega
          refine ⟨cs', e, w, .slice (some ⟨w.heap.size, 0, none⟩) len len, ?_, rfl, rfl, rfl, rfl, fun j u hj => ?_, .inr ⟨len, len, rfl, rfl, Nat.le_refl _, ?_, by rw [← h4.1, hlen]; exact Nat.le_refl _⟩⟩
          · by_cases h0 : len * i.size = 0
            · have hm0 : madeCells z.cells (len * i.size) = (Array.range (len * i.size)).map ((#[] : Array Value)[· % 0]!) := by rw [h0]; simp [madeCells]
              rw [hm0] at h3
              simp [execOp, ho, Instr.buildSlice, underlying, hu, sizeOf, typeInfo, hi, h0, newRow] at h3 ⊢
              rw [h3]; simp
            · simp [execOp, ho, Instr.buildSlice, underlying, hu, sizeOf, typeInfo, hi, hsm, h0, zeroValue, hzz, newRow, madeCells] at h3 ⊢
              rw [h3]; simp
          · have hlt := (List.getElem?_eq_some_iff.1 hj).1
            exact ⟨_, getD_of_lt (by rw [← h4.1]; exact hlt), h4.2 j u hj⟩
          · have : len * 1 ≤ len * i.size := Nat.mul_le_mul_left len hsz.2
            unfold maxLen; omega
        · cases hz
      · cases hz
    · cases hz
  · cases hz
end
end Go.AM
end
section
namespace Go.AM
theorem HRel.drop {Γ : List (Nat × List AVal)} {w : World} {G : Nat → Prop} {ρ : Names} {H : Owner} (h : HRel Γ w G ρ H) (id : Nat) (A : Allow) :
    HRel Γ w G (setN ρ id none) (updO H A [(id, none)]) ∧ ∀ S, Step S w G ρ w G (setN ρ id none) := by
  have hs : ∀ S : Allow, Step S w G ρ w G (setN ρ id none) := fun S => by
    refine ⟨Nat.le_refl _, fun _ _ _ => rfl, fun _ _ => rfl, fun _ h => h, fun _ h => .inl h, ?_, ?_, rfl, rfl, rfl⟩
    · rintro b ⟨i, s, hb⟩
      simp only [setN] at hb
      split at hb
      · cases hb
      · exact .inl ⟨i, s, hb⟩
    · intro i _
      simp only [setN]; split
      · exact .inl rfl
      · exact .inr rfl
  refine ⟨h.after (hs (fun _ => True)) _ ?_ ?_ ?_ h.ro, hs⟩
  · intro i hi
    simp only [updO] at hi
    simp only [setN]
    split at hi
    · rename_i he; rw [if_pos he]
    · rename_i he; rw [if_neg he]; exact h.dom i hi
  · intro i B A1 hi
    simp only [updO] at hi
    split at hi
    · cases hi
    · rename_i he
      obtain ⟨hA, b, hb, hg, _⟩ := h.blk i B A1 hi
      exact ⟨hA, .inl ⟨A1, b, hi, fun _ h => h, fun _ _ => trivial, by simp [setN, he], hb, rfl, hg⟩⟩
  · intro i j b s t hi hj
    simp only [setN] at hi hj
    split at hi
    · cases hi
    · split at hj
      · cases hj
      · exact h.inj i j b s t hi hj
section
variable {P : Program} {Γ : List (Nat × List AVal)} {o : Oper} {ev : Operand → Option AVal} {get : Nat → Option Blk} {k : Nat}
theorem run_append_room' (w : World) (t ty e : TypeId) (i : TypeInfo) (ht : P.underlying t = some (.slice e)) (hi : P.info? e = some i)
    (g sLen sCap : Nat) (cur : Array Value) (ety : TypeId) (hg : w.heap[g]? = some (.cells cur ety (0, 0)))
    (a : Addr) (m c : Nat) (news : List Value) (hl : news.length = m * i.size) (hnews : ∀ j u, news[j]? = some u → w.cell? (a.add j) = some u) (h1 : ∀ u ∈ news, u.oneCell' = true)
    (hroom : sLen + m ≤ sCap) (hfit : sLen * i.size + news.length ≤ cur.size) :
    (Builtin.append_ #[t, t] ty #[.slice (some ⟨g, 0, none⟩) sLen sCap, .slice (some a) m c]).run P w =
      .ok (.slice (some ⟨g, 0, none⟩) (sLen + m) sCap) (w.setRow g (cur.toList.take (sLen * i.size) ++ news ++ cur.toList.drop (sLen * i.size + news.length)).toArray) := by
  have hf := run_firstCells_some (P := P) w i.size m a m c news hl hnews
  have hst := run_storeCells_at (P := P) g (sLen * i.size) ety news 0 cur w hg (by simpa using hfit) h1
  simp only [Nat.add_zero] at hst
  simp [Builtin.append_, run_underlying ht, sizeOf, typeInfo, hi, Builtin.lenOf, hroom, hf, Addr.add_lit, hst]
structure Src (w : World) (G : Nat → Prop) (ρ : Names) (A : Allow) (s m : Nat) (rows : List (List AVal)) (pure : Bool) (cv : Value) : Prop where
  len : rows.length = m
  rlen : ∀ (r : Nat) row, rows[r]? = some row → row.length = s
  ex : 0 < m → ∃ b off cap, cv = .slice (some ⟨b, off, none⟩) m cap ∧ ∃ gv : Nat → Nat → Value, ∀ r row c v, rows[r]? = some row → row[c]? = some v →
    w.cell? ⟨b, off + r * s + c, none⟩ = some (gv r c) ∧ V w G (if pure then noNames else ρ) (if pure then noAllow else A) v (gv r c)
def news (s m : Nat) (gv : Nat → Nat → Value) : List Value := (List.range (m * s)).map fun j => gv (j / s) (j % s)
theorem news_len (s m : Nat) (gv : Nat → Nat → Value) : (news s m gv).length = m * s := by simp [news]
theorem news_get {s m : Nat} {gv : Nat → Nat → Value} {r c : Nat} (hr : r < m) (hc : c < s) : (news s m gv)[r * s + c]? = some (gv r c) := by
  have hlt : r * s + c < m * s := by
    have : (r + 1) * s ≤ m * s := Nat.mul_le_mul_right s hr
    rw [Nat.add_mul] at this; omega
  unfold news
  rw [List.getElem?_map, List.getElem?_range hlt]
  have h1 : (r * s + c) % s = c := by rw [Nat.add_comm, Nat.add_mul_mod_self_right]; exact Nat.mod_eq_of_lt hc
  have h2 : (r * s + c) / s = r := by rw [Nat.add_comm, Nat.add_mul_div_right _ _ (by omega), Nat.div_eq_of_lt hc]; omega
  simp [h1, h2]
theorem news_inv {s m : Nat} {gv : Nat → Nat → Value} {j : Nat} {u : Value} (h : (news s m gv)[j]? = some u) (hs : 0 < s) : j / s < m ∧ j % s < s ∧ u = gv (j / s) (j % s) := by
  unfold news at h
  rw [List.getElem?_map] at h
  simp only [Option.map_eq_some_iff] at h
  obtain ⟨i, hi, rfl⟩ := h
  obtain ⟨hlt, he⟩ := List.getElem?_eq_some_iff.1 hi
  simp at he hlt
  subst he
  exact ⟨Nat.div_lt_of_lt_mul (by rw [Nat.mul_comm]; exact hlt), Nat.mod_lt _ hs, rfl⟩
theorem row_get {rows : List (List AVal)} {s r c : Nat} (hl : ∀ (r : Nat) row, rows[r]? = some row → row.length = s) (hr : r < rows.length) (hc : c < s) : ∃ row v, rows[r]? = some row ∧ row[c]? = some v := by
  have h1 : rows[r]? = some rows[r] := List.getElem?_eq_getElem hr
  have h2 := hl r _ h1
  exact ⟨rows[r], rows[r][c]'(by omega), h1, List.getElem?_eq_getElem (by omega)⟩
def rowsOne (rows : List (List AVal)) : Prop := ∀ (r : Nat) row (c : Nat) v, rows[r]? = some row → row[c]? = some v → one v = true
theorem append_core {t s by' n m : Nat} {x y : Operand} {zrow : List AVal} {olds src : List (List AVal)} {pd ps : Bool} {rds : List Nat} {idd : Option Nat}
    (ho : o.op = .call { callee := .builtin .append, args := #[x, y], argTypes := #[t, t] }) (hz : ezero P t = some (s, by', zrow)) (hm : 0 < m) (hlen : n + m ≤ 9223372036854775807) (hby : (n + m) * by' ≤ 140737488355328)
    (hone : rowsOne src) (hidk : ∀ id, idd = some id → id < k)
    (hdst : ∀ w G ρ H (A : Allow) (a : Act), HRel Γ w G ρ H → (∀ id, id ∈ rds → ∃ B A', get id = some B ∧ H id = some (B, A') ∧ ∀ i, A' i → A i) → (∀ x, x ∈ o.op.operands → ∀ v, ev x = some v → V w G ρ A v (a.eval x)) →
      (idd = none ∧ n = 0 ∧ olds = [] ∧ a.eval x = .slice none 0 0) ∨
      (∃ id B A', idd = some id ∧ H id = some (B, A') ∧ (∀ i, A' i → A i) ∧ B.sz = s ∧ B.pure = pd ∧ B.rows = olds ∧ olds.length = n ∧ V w G ρ A (.sl id 0 n) (a.eval x)))
    (hsrc : ∀ w G ρ H (A : Allow) (a : Act), HRel Γ w G ρ H → (∀ id, id ∈ rds → ∃ B A', get id = some B ∧ H id = some (B, A') ∧ ∀ i, A' i → A i) → (∀ x, x ∈ o.op.operands → ∀ v, ev x = some v → V w G ρ A v (a.eval x)) →
      Src w G ρ A s m src ps (a.eval y)) :
    OpOk P Γ o ev get k ⟨.sl k 0 (n + m), k + 1, (k, some ⟨s, (idd.isNone || pd) && ps, olds ++ src⟩) :: (match idd with | some id => [(id, none)] | none => []), rds⟩ := by
  unfold ezero at hz
  split at hz
  case h_2 => cases hz
  rename_i e hu
  split at hz
  case h_2 => cases hz
  rename_i i hi
  split at hz
  case h_2 => cases hz
  rename_i z hzz
  split at hz
  case isFalse => cases hz
  rename_i hsz
  cases hz
  intro w G ρ H A a hr hA hf hrd hop next Q hn
  have hkA : ¬ A k := fun hk => Nat.lt_irrefl _ (hA k hk)
  obtain ⟨hρk, hfr⟩ := hf k (Nat.le_refl _) (Nat.lt_succ_self _)
  obtain ⟨hsl, hsrl, hsex⟩ := hsrc w G ρ H A a hr hrd hop
  obtain ⟨sb, soff, scap, hsv, gv, hgv⟩ := hsex hm
  have hnl := news_len i.size m gv
  have hcells : ∀ j u, (news i.size m gv)[j]? = some u → w.cell? ((⟨sb, soff, none⟩ : Addr).add j) = some u := fun j u hj => by
    obtain ⟨h1, h2, rfl⟩ := news_inv hj hsz.2
    obtain ⟨row, v, h3, h4⟩ := row_get hsrl (by omega : j / i.size < src.length) h2
    have h5 := (hgv _ row _ v h3 h4).1
    rw [Addr.add_mid, ← h5]
    have : soff + j = soff + j / i.size * i.size + j % i.size := by have := Nat.div_add_mod j i.size; rw [Nat.mul_comm] at this; omega
    rw [this]
  have hone' : ∀ u ∈ news i.size m gv, u.oneCell' = true := fun u hu => by
    obtain ⟨j, hj⟩ := List.getElem?_of_mem hu
    obtain ⟨h1, h2, rfl⟩ := news_inv hj hsz.2
    obtain ⟨row, v, h3, h4⟩ := row_get hsrl (by omega : j / i.size < src.length) h2
    exact one_V (hgv _ row _ v h3 h4).2 (hone _ row _ v h3 h4)
  have hrowlen : ∀ (hol : ∀ (r : Nat) row, olds[r]? = some row → row.length = i.size) (r : Nat) row, (olds ++ src)[r]? = some row → row.length = i.size := fun hol r row h => by
    rw [List.getElem?_append] at h
    split at h
    · exact hol r row h
    · exact hsrl _ row h
  have hnewV : ∀ (pp : Bool) (v : AVal) (cv : Value), (pp = true → ps = true) → V w G (if ps then noNames else ρ) (if ps then noAllow else A) v cv → V w G (if pp then noNames else ρ) (if pp then noAllow else A) v cv := fun pp v cv hp h => by
    cases ps with
    | true =>
      cases pp with
      | true => simpa using h
      | false => simp only [if_true] at h; simp only [Bool.false_eq_true, if_false]; exact h.weaken
    | false => cases pp with
      | true => exact absurd (hp rfl) (by simp)
      | false => simpa using h
  have hval : ∀ cv w', ((execOp a.eval o).run P w = .ok (.value cv) w') = ((Builtin.append_ #[t, t] o.type #[a.eval x, .slice (some ⟨sb, soff, none⟩) m scap]).run P w = .ok cv w') := fun cv w' => by
    simp only [execOp, ho, resolve, invoke, builtin]
    simp only [List.map_toArray, List.map_cons, List.map_nil, Sem.run_bind, Sem.run_pure, Result.andThen_ok, hsv]
    cases (Builtin.append_ #[t, t] o.type #[a.eval x, .slice (some ⟨sb, soff, none⟩) m scap]).run P w <;> simp [Result.andThen]
  rcases hdst w G ρ H A a hr hrd hop with ⟨rfl, rfl, rfl, hxv⟩ | ⟨id, B, A', rfl, hH, hAA, hBs, rfl, rfl, rfl, hV⟩
  ·
    have hrun := run_append_nil (P := P) w t o.type e i z hu hi hzz ⟨sb, soff, none⟩ m scap (news i.size m gv) hnl hcells hm (by omega) (by have : (0 + m) * i.bytes ≤ 140737488355328 := hby; rw [Nat.zero_add] at this; omega)
    rw [← hxv] at hrun
    have hrun' := (hval _ _).mpr hrun
    unfold Oper.wp
    rw [hrun']
    have hge := grownCap_ge w m 0 e
    have hcm := grownCap_le_maxLen w m 0 e (by unfold maxLen; omega)
    have hrel := hr.alloc k hρk hfr ⟨i.size, (Option.isNone (none : Option Nat) || pd) && ps, ([] : List (List AVal)) ++ src⟩ ((news i.size m gv).toArray ++ Builtin.zeroCells z.cells (grownCap w m 0 e - m)) e A (fun i => A i ∨ (k ≤ i ∧ i < k + 1)) hkA (fun _ h => .inl h) (.inr ⟨Nat.le_refl _, Nat.lt_succ_self _⟩)
      (fun r row h => hsrl r row (by simpa using h))
      (fun r row c v h1 h2 => by
        simp only [List.nil_append] at h1
        have hc : c < i.size := by have := (List.getElem?_eq_some_iff.1 h2).1; have := hsrl r row h1; omega
        have hrm : r < m := by have := (List.getElem?_eq_some_iff.1 h1).1; omega
        refine ⟨gv r c, ?_, hnewV _ v _ (by simp) (hgv r row c v h1 h2).2⟩
        rw [Array.getElem?_append_left (by
          have := news_get (gv := gv) hrm hc
          have := (List.getElem?_eq_some_iff.1 this).1
          simpa using this), List.getElem?_toArray]
        exact news_get hrm hc)
      w.drew rfl rfl rfl rfl
    have hst := step_alloc (w := w) (G := G) (ρ := ρ) k i.size (.cells ((news i.size m gv).toArray ++ Builtin.zeroCells z.cells (grownCap w m 0 e - m)) e) w.drew rfl rfl rfl rfl
    refine hn _ G _ _ hrel ?_ ⟨hst.size, hst.keep, hst.shape, hst.g, hst.g', hst.own, fun id hid => hst.ids id (fun he => hid (show k ≤ id ∧ id < k + 1 by omega)), hst.os, hst.tape, hst.output⟩
    simp only [Nat.zero_add]
    refine .sl (b := w.heap.size) (s := i.size) (ty := e) (m := ((news i.size m gv).toArray ++ Builtin.zeroCells z.cells (grownCap w m 0 e - m)).size) (.inr ⟨Nat.le_refl _, Nat.lt_succ_self _⟩) (by simp [setN]) ?_ ?_ hge hcm (.inr (by simp))
    · have := heap_push_new w.drew (.cells ((news i.size m gv).toArray ++ Builtin.zeroCells z.cells (grownCap w m 0 e - m)) e)
      have e1 : w.drew.heap.size = w.heap.size := rfl
      rw [e1] at this
      unfold World.shape?
      rw [this]
    · rw [Array.size_append, List.size_toArray, hnl, size_zeroCells, hsz.1, ← Nat.add_mul]
      exact Nat.mul_le_mul_right _ (by omega)
  ·
    have hidk' := hidk id rfl
    obtain ⟨hAid, b, hb, hg, ⟨⟨C, ty, hC, hrows⟩, hbl⟩⟩ := hr.blk id B A' hH
    have hsB : B.sz = i.size := hBs
    have hnC : B.rows.length * i.size ≤ C.size := by
      by_cases h0 : B.rows.length = 0
      · rw [h0]; simp
      · obtain ⟨row, v, h1, h2⟩ := row_get (s := i.size) (r := B.rows.length - 1) (c := i.size - 1) (fun r row h => by rw [← hsB]; exact hbl r row h) (by omega) (by omega)
        obtain ⟨cu, h3, _⟩ := hrows _ row _ v h1 h2
        have h4 := (Array.getElem?_eq_some_iff.1 h3).1
        rw [hsB] at h4
        have : B.rows.length * i.size = (B.rows.length - 1) * i.size + i.size := by
          have e1 : B.rows.length = (B.rows.length - 1) + 1 := by omega
          rw [e1, Nat.add_mul]; simp
        omega
    have holdV : ∀ (pp : Bool) (v : AVal) (cv : Value), (pp = true → B.pure = true) → V w G (if B.pure then noNames else ρ) (if B.pure then noAllow else A') v cv → V w G (if pp then noNames else ρ) (if pp then noAllow else A) v cv := fun pp v cv hp h => by
      cases hbp : B.pure with
      | true =>
        rw [hbp] at h
        cases pp with
        | true => simpa using h
        | false => simp only [if_true] at h; simp only [Bool.false_eq_true, if_false]; exact h.weaken
      | false =>
        rw [hbp] at h hp
        cases pp with
        | true => exact absurd (hp rfl) (by simp)
        | false => simp only [Bool.false_eq_true, if_false] at h ⊢; exact h.mono (fun _ h => h) (fun _ _ => rfl) (fun _ _ => rfl) hAA (fun _ _ => .inr rfl)
    generalize hev : a.eval x = cvx at hV hval
    generalize hbn : B.rows.length = bn at hV
    cases hV with
    | dangs _ hnn => rw [hb] at hnn; cases hnn
    | sl0 ha hρ =>
      have hb0 : B.rows.length = 0 := hbn
      have hrl : B.rows = [] := List.length_eq_zero_iff.1 hb0
      have hrun := run_append_nil (P := P) w t o.type e i z hu hi hzz ⟨sb, soff, none⟩ m scap (news i.size m gv) hnl hcells hm (by omega) (by have : (0 + m) * i.bytes ≤ (B.rows.length + m) * i.bytes := Nat.mul_le_mul_right _ (by omega); rw [Nat.zero_add] at this; omega)
      have hrun' := (hval _ _).mpr hrun
      unfold Oper.wp
      rw [hrun']
      have hge := grownCap_ge w m 0 e
      have hcm := grownCap_le_maxLen w m 0 e (by unfold maxLen; omega)
      obtain ⟨hrd0, hsd⟩ := hr.drop id (fun i => A i ∨ (k ≤ i ∧ i < k + 1))
      have hρ0 : ∀ v cv, V w G ρ A v cv → V w G (setN ρ id none) A v cv := fun v cv h => h.mono (fun _ h => h) (fun _ _ => rfl) (fun _ _ => rfl) (fun _ h => h) (fun j _ => (hsd A).ids j ‹_›)
      have hVd : ∀ (pp : Bool) v cv, V w G (if pp then noNames else ρ) (if pp then noAllow else A) v cv → V w G (if pp then noNames else setN ρ id none) (if pp then noAllow else A) v cv := fun pp v cv h => by
        cases pp with
        | true => simpa using h
        | false => simp only [Bool.false_eq_true, if_false] at h ⊢; exact hρ0 v cv h
      have hrel := hrd0.alloc k (by simp only [setN]; split <;> simp_all) (fun j B1 A1 hj => by
          simp only [updO] at hj
          split at hj
          · cases hj
          · exact hfr j B1 A1 hj) ⟨i.size, (Option.isNone (some id) || B.pure) && ps, B.rows ++ src⟩
        ((news i.size m gv).toArray ++ Builtin.zeroCells z.cells (grownCap w m 0 e - m)) e A (fun i => A i ∨ (k ≤ i ∧ i < k + 1)) hkA (fun _ h => .inl h) (.inr ⟨Nat.le_refl _, Nat.lt_succ_self _⟩)
        (hrowlen (fun r row h => by rw [← hsB]; exact hbl r row h))
        (fun r row c v h1 h2 => by
          have h1' : (B.rows ++ src)[r]? = some row := h1
          rw [hrl, List.nil_append] at h1'
          have hc : c < i.size := by have := (List.getElem?_eq_some_iff.1 h2).1; have := hsrl r row h1'; omega
          have hrm : r < m := by have := (List.getElem?_eq_some_iff.1 h1').1; omega
          have h9 := news_get (gv := gv) hrm hc
          refine ⟨gv r c, ?_, hVd _ v _ (hnewV _ v _ (by simp) (hgv r row c v h1' h2).2)⟩
          rw [Array.getElem?_append_left (by have := (List.getElem?_eq_some_iff.1 h9).1; simpa using this), List.getElem?_toArray]
          exact h9)
        w.drew rfl rfl rfl rfl
      have hst := (hsd (fun j => j ≠ k)).trans (step_alloc (w := w) (G := G) (ρ := setN ρ id none) k i.size (.cells ((news i.size m gv).toArray ++ Builtin.zeroCells z.cells (grownCap w m 0 e - m)) e) w.drew rfl rfl rfl rfl) (fun _ h => h)
      have hup : updO (updO H (fun i => A i ∨ (k ≤ i ∧ i < k + 1)) [(id, none)]) (fun i => A i ∨ (k ≤ i ∧ i < k + 1)) [(k, some ⟨i.size, (Option.isNone (some id) || B.pure) && ps, B.rows ++ src⟩)]
          = updO H (fun i => A i ∨ (k ≤ i ∧ i < k + 1)) [(k, some ⟨i.size, (Option.isNone (some id) || B.pure) && ps, B.rows ++ src⟩), (id, none)] := rfl
      rw [hup] at hrel
      refine hn _ G _ _ hrel ?_ ⟨hst.size, hst.keep, hst.shape, hst.g, hst.g', hst.own, fun j hj => hst.ids j (fun he => hj (show k ≤ j ∧ j < k + 1 by omega)), hst.os, hst.tape, hst.output⟩
      have e0 : B.rows.length + m = m := by omega
      show V _ G _ (fun i => A i ∨ (k ≤ i ∧ i < k + 1)) (AVal.sl k 0 (B.rows.length + m)) _
      rw [e0]
      refine .sl (b := w.heap.size) (s := i.size) (ty := e) (m := ((news i.size m gv).toArray ++ Builtin.zeroCells z.cells (grownCap w m 0 e - m)).size) (.inr ⟨Nat.le_refl _, Nat.lt_succ_self _⟩) (by simp [setN]) ?_ ?_ hge hcm (.inr (by simp))
      · have := heap_push_new w.drew (.cells ((news i.size m gv).toArray ++ Builtin.zeroCells z.cells (grownCap w m 0 e - m)) e)
        have e1 : w.drew.heap.size = w.heap.size := rfl
        rw [e1] at this
        unfold World.shape?
        rw [this]
      · rw [Array.size_append, List.size_toArray, hnl, size_zeroCells, hsz.1, ← Nat.add_mul]
        exact Nat.mul_le_mul_right _ (by omega)
    | sl ha hρ hsh hm1 hn1 hc1 hoff =>
      subst hbn
      rw [hb] at hρ; cases hρ
      rename_i tys ms cap off
      have hsC : ms = C.size := by unfold World.shape? at hsh; rw [hC] at hsh; simp at hsh; exact hsh.2.symm
      subst hsC
      by_cases hroom : B.rows.length + m ≤ cap
      ·
        have hoff' : off = 0 := by rcases hoff with h | h; · omega
                                   · simpa using h
        subst hoff'
        have hfit : B.rows.length * i.size + (news i.size m gv).length ≤ C.size := by
          rw [hnl, ← Nat.add_mul]
          have h5 : (B.rows.length + m) * i.size ≤ cap * i.size := Nat.mul_le_mul_right _ hroom
          rw [hsB] at hm1
          simp only [Nat.zero_add] at hm1
          omega
        have hrun := run_append_room' (P := P) w t o.type e i hu hi b B.rows.length cap C ty hC ⟨sb, soff, none⟩ m scap (news i.size m gv) hnl hcells hone' hroom hfit
        have hrun' := (hval _ _).mpr hrun
        unfold Oper.wp
        rw [hrun']
        have hseg := seg_get (l := C.toList) (vs := news i.size m gv) (o := B.rows.length * i.size) (by simpa using hfit)
        have hrw := HRel.rewrite hr hb k (.inr ⟨hρk, hfr⟩) ⟨i.size, (Option.isNone (some id) || B.pure) && ps, B.rows ++ src⟩ hsB.symm
          (C.toList.take (B.rows.length * i.size) ++ news i.size m gv ++ C.toList.drop (B.rows.length * i.size + (news i.size m gv).length)).toArray ty A (fun i => A i ∨ (k ≤ i ∧ i < k + 1)) (.inr hkA) (fun _ h => .inl h) (.inr ⟨Nat.le_refl _, Nat.lt_succ_self _⟩)
          (w.setRow b (C.toList.take (B.rows.length * i.size) ++ news i.size m gv ++ C.toList.drop (B.rows.length * i.size + (news i.size m gv).length)).toArray)
          (setRow_heap w b C _ ty _ hC) (fun j hj => setRow_other w b j _ hj) (size_setRow _ _ _)
          (by
            unfold World.shape?
            rw [setRow_heap w b C _ ty _ hC, hC]
            simp; omega)
          rfl rfl rfl (hrowlen (fun r row h => by rw [← hsB]; exact hbl r row h))
          (fun r row c v h1 h2 => by
            have h1' : (B.rows ++ src)[r]? = some row := h1
            have hc : c < i.size := by have := (List.getElem?_eq_some_iff.1 h2).1; have := hrowlen (fun r row h => by rw [← hsB]; exact hbl r row h) r row h1'; omega
            show ∃ cv, (C.toList.take (B.rows.length * i.size) ++ news i.size m gv ++ C.toList.drop (B.rows.length * i.size + (news i.size m gv).length)).toArray[r * i.size + c]? = some cv ∧ V w G (if ((Option.isNone (some id) || B.pure) && ps) then noNames else ρ) (if ((Option.isNone (some id) || B.pure) && ps) then noAllow else A) v cv
            rw [List.getElem?_toArray, hseg]
            rw [List.getElem?_append] at h1'
            split at h1'
            · rename_i hlt
              have h6 : r * i.size + c < B.rows.length * i.size := by
                have : (r + 1) * i.size ≤ B.rows.length * i.size := Nat.mul_le_mul_right _ hlt
                rw [Nat.add_mul] at this; omega
              rw [if_pos h6]
              obtain ⟨cu, h7, h8⟩ := hrows r row c v h1' h2
              rw [hsB] at h7
              exact ⟨cu, by rw [Array.getElem?_toList]; exact h7, holdV _ v cu (by simp; intro h _; exact h) h8⟩
            · rename_i hge
              have hrm : r - B.rows.length < m := by have := (List.getElem?_eq_some_iff.1 h1').1; omega
              have h9 := news_get (gv := gv) hrm hc
              have h10 := (List.getElem?_eq_some_iff.1 h9).1
              have e1 : r * i.size + c = B.rows.length * i.size + ((r - B.rows.length) * i.size + c) := by
                have : r * i.size = B.rows.length * i.size + (r - B.rows.length) * i.size := by rw [← Nat.add_mul]; congr 1; omega
                omega
              rw [e1, if_neg (by omega), if_pos (by omega)]
              have e2 : B.rows.length * i.size + ((r - B.rows.length) * i.size + c) - B.rows.length * i.size = (r - B.rows.length) * i.size + c := by omega
              rw [e2]
              exact ⟨_, h9, hnewV _ v _ (by simp) (hgv _ row c v h1' h2).2⟩)
        obtain ⟨hrel, hst⟩ := hrw
        refine hn _ G _ _ hrel ?_ ⟨hst.size, hst.keep, hst.shape, hst.g, hst.g', hst.own, fun j hj => hst.ids j (.inl (fun he => hj (show k ≤ j ∧ j < k + 1 by omega))), hst.os, hst.tape, hst.output⟩
        have hne : (0 : Nat) * B.sz = 0 := by simp
        refine .sl (b := b) (s := B.sz) (ty := ty) (m := C.size) (.inr ⟨Nat.le_refl _, Nat.lt_succ_self _⟩) (by simp [setN]) ?_ hm1 hroom hc1 (.inr (by simp))
        unfold World.shape?
        rw [setRow_heap w b C _ ty _ hC]
        have hl2 : (C.toList.take (B.rows.length * i.size) ++ news i.size m gv ++ C.toList.drop (B.rows.length * i.size + (news i.size m gv).length)).toArray.size = C.size := by
          simp only [List.size_toArray, List.length_append, List.length_take, List.length_drop, Array.length_toList]; omega
        simp only [hl2]
      ·
        have holds : ∀ j v, (C.toList.take (B.rows.length * i.size))[j]? = some v → w.cell? ((⟨b, off, none⟩ : Addr).add j) = some v := fun j v hj => by
          rw [List.getElem?_take] at hj
          split at hj
          · rename_i hlt
            have hn0 : 0 < B.rows.length := Nat.pos_of_ne_zero (fun h0 => by rw [h0] at hlt; simp at hlt)
            have hoff' : off = 0 := by rcases hoff with h | h; · omega
                                       · simpa using h
            subst hoff'
            rw [Addr.add_mid, cell_of_row w b _ C ty (0, 0) hC, ← Array.getElem?_toList, Nat.zero_add]
            exact hj
          · cases hj
        have hol : (C.toList.take (B.rows.length * i.size)).length = B.rows.length * i.size := by simp; omega
        have hrun := run_append_grow (P := P) w t o.type e i z hu hi hzz ⟨b, off, none⟩ B.rows.length cap _ hol holds ⟨sb, soff, none⟩ m scap (news i.size m gv) hnl hcells (by omega) (by omega) (growslice_fits (by omega) hby)
        have hrun' := (hval _ _).mpr hrun
        unfold Oper.wp
        rw [hrun']
        have hge := grownCap_ge w (B.rows.length + m) cap e
        have hcm := grownCap_le_maxLen w (B.rows.length + m) cap e (by unfold maxLen; omega)
        obtain ⟨hrd0, hsd⟩ := hr.drop id (fun i => A i ∨ (k ≤ i ∧ i < k + 1))
        have hρ0 : ∀ v cv, V w G ρ A v cv → V w G (setN ρ id none) A v cv := fun v cv h => h.mono (fun _ h => h) (fun _ _ => rfl) (fun _ _ => rfl) (fun _ h => h) (fun j _ => (hsd A).ids j ‹_›)
        have hVd : ∀ (pp : Bool) v cv, V w G (if pp then noNames else ρ) (if pp then noAllow else A) v cv → V w G (if pp then noNames else setN ρ id none) (if pp then noAllow else A) v cv := fun pp v cv h => by
          cases pp with
          | true => simpa using h
          | false => simp only [Bool.false_eq_true, if_false] at h ⊢; exact hρ0 v cv h
        have hrel := hrd0.alloc k (by simp only [setN]; split <;> simp_all) (fun j B1 A1 hj => by
            simp only [updO] at hj
            split at hj
            · cases hj
            · exact hfr j B1 A1 hj) ⟨i.size, (Option.isNone (some id) || B.pure) && ps, B.rows ++ src⟩
          ((C.toList.take (B.rows.length * i.size)).toArray ++ (news i.size m gv).toArray ++ Builtin.zeroCells z.cells (grownCap w (B.rows.length + m) cap e - (B.rows.length + m))) e A (fun i => A i ∨ (k ≤ i ∧ i < k + 1)) hkA (fun _ h => .inl h) (.inr ⟨Nat.le_refl _, Nat.lt_succ_self _⟩)
          (hrowlen (fun r row h => by rw [← hsB]; exact hbl r row h))
          (fun r row c v h1 h2 => by
            have h1' : (B.rows ++ src)[r]? = some row := h1
            have hc : c < i.size := by have := (List.getElem?_eq_some_iff.1 h2).1; have := hrowlen (fun r row h => by rw [← hsB]; exact hbl r row h) r row h1'; omega
            show ∃ cv, ((C.toList.take (B.rows.length * i.size)).toArray ++ (news i.size m gv).toArray ++ Builtin.zeroCells z.cells (grownCap w (B.rows.length + m) cap e - (B.rows.length + m)))[r * i.size + c]? = some cv ∧ V w G (if ((Option.isNone (some id) || B.pure) && ps) then noNames else setN ρ id none) (if ((Option.isNone (some id) || B.pure) && ps) then noAllow else A) v cv
            rw [List.getElem?_append] at h1'
            split at h1'
            · rename_i hlt
              have h6 : r * i.size + c < B.rows.length * i.size := by
                have : (r + 1) * i.size ≤ B.rows.length * i.size := Nat.mul_le_mul_right _ hlt
                rw [Nat.add_mul] at this; omega
              obtain ⟨cu, h7, h8⟩ := hrows r row c v h1' h2
              rw [hsB] at h7
              refine ⟨cu, ?_, hVd _ v cu (holdV _ v cu (by simp; intro h _; exact h) h8)⟩
              rw [Array.append_assoc, Array.getElem?_append_left (by simp; omega), List.getElem?_toArray, List.getElem?_take, if_pos h6, Array.getElem?_toList]
              exact h7
            · rename_i hge
              have hrm : r - B.rows.length < m := by have := (List.getElem?_eq_some_iff.1 h1').1; omega
              have h9 := news_get (gv := gv) hrm hc
              have h10 := (List.getElem?_eq_some_iff.1 h9).1
              have e1 : r * i.size + c = B.rows.length * i.size + ((r - B.rows.length) * i.size + c) := by
                have : r * i.size = B.rows.length * i.size + (r - B.rows.length) * i.size := by rw [← Nat.add_mul]; congr 1; omega
                omega
              refine ⟨_, ?_, hVd _ v _ (hnewV _ v _ (by simp) (hgv _ row c v h1' h2).2)⟩
              have hsz1 : (C.toList.take (B.rows.length * i.size)).toArray.size = B.rows.length * i.size := by rw [List.size_toArray]; exact hol
              rw [Array.append_assoc, Array.getElem?_append_right (by rw [hsz1]; omega), hsz1, e1, Nat.add_sub_cancel_left, Array.getElem?_append_left (by rw [List.size_toArray]; exact h10), List.getElem?_toArray]
              exact h9)
          w.drew rfl rfl rfl rfl
        have hst := (hsd (fun j => j ≠ k)).trans (step_alloc (w := w) (G := G) (ρ := setN ρ id none) k i.size (.cells ((C.toList.take (B.rows.length * i.size)).toArray ++ (news i.size m gv).toArray ++ Builtin.zeroCells z.cells (grownCap w (B.rows.length + m) cap e - (B.rows.length + m))) e) w.drew rfl rfl rfl rfl) (fun _ h => h)
        have hup : updO (updO H (fun i => A i ∨ (k ≤ i ∧ i < k + 1)) [(id, none)]) (fun i => A i ∨ (k ≤ i ∧ i < k + 1)) [(k, some ⟨i.size, (Option.isNone (some id) || B.pure) && ps, B.rows ++ src⟩)]
            = updO H (fun i => A i ∨ (k ≤ i ∧ i < k + 1)) [(k, some ⟨i.size, (Option.isNone (some id) || B.pure) && ps, B.rows ++ src⟩), (id, none)] := rfl
        rw [hup] at hrel
        refine hn _ G _ _ hrel ?_ ⟨hst.size, hst.keep, hst.shape, hst.g, hst.g', hst.own, fun j hj => hst.ids j (fun he => hj (show k ≤ j ∧ j < k + 1 by omega)), hst.os, hst.tape, hst.output⟩
        refine .sl (b := w.heap.size) (s := i.size) (ty := e) (m := ((C.toList.take (B.rows.length * i.size)).toArray ++ (news i.size m gv).toArray ++ Builtin.zeroCells z.cells (grownCap w (B.rows.length + m) cap e - (B.rows.length + m))).size) (.inr ⟨Nat.le_refl _, Nat.lt_succ_self _⟩) (by simp [setN]) ?_ ?_ hge hcm (.inr (by simp))
        · have := heap_push_new w.drew (.cells ((C.toList.take (B.rows.length * i.size)).toArray ++ (news i.size m gv).toArray ++ Builtin.zeroCells z.cells (grownCap w (B.rows.length + m) cap e - (B.rows.length + m))) e)
          have e1 : w.drew.heap.size = w.heap.size := rfl
          rw [e1] at this
          unfold World.shape?
          rw [this]
        · rw [Array.size_append, Array.size_append, List.size_toArray, List.size_toArray, hnl, hol, size_zeroCells, hsz.1, ← Nat.add_mul, ← Nat.add_mul]
          exact Nat.mul_le_mul_right _ (by omega)
end
end Go.AM
end
section
namespace Go.AM
def del {α : Type} (l : List (Nat × α)) (k : Nat) : List (Nat × α) :=
  match l with
  | [] => []
  | (a, x) :: r => if a = k then del r k else (a, x) :: del r k
theorem look_del {α : Type} : ∀ (l : List (Nat × α)) (k j : Nat), look (del l k) j = if j = k then none else look l j
  | [], k, j => by simp [del, look]
  | (a, x) :: r, k, j => by
    simp only [del]
    by_cases h : a = k
    · rw [if_pos h, look_del r k j]
      by_cases h2 : j = k
      · rw [if_pos h2, if_pos h2]
      · rw [if_neg h2, if_neg h2]; simp only [look]; rw [if_neg (by omega)]
    · rw [if_neg h]
      simp only [look]
      by_cases h3 : a = j
      · rw [if_pos h3, if_pos h3, if_neg (by omega)]
      · rw [if_neg h3, if_neg h3]; exact look_del r k j
def putO (fr : Fr) (d : Option Nat) (v : AVal) : Fr :=
  match d with
  | some t => (t, v) :: del fr t
  | none => fr
def updH (H : Heap) : List (Nat × Option Blk) → Heap
  | [] => H
  | (id, some B) :: r => (id, B) :: del (updH H r) id
  | (id, none) :: r => del (updH H r) id
def modOf (upd : List (Nat × Option Blk)) (id : Nat) : Option (Option Blk) := look upd id
theorem look_putO (fr : Fr) (d : Option Nat) (v : AVal) (t : Nat) : look (putO fr d v) t = if d = some t then some v else look fr t := by
  cases d with
  | none => simp [putO]
  | some x =>
    simp only [putO, look]
    by_cases h : x = t
    · rw [if_pos h, if_pos (by rw [h])]
    · rw [if_neg h, look_del, if_neg (fun e => h e.symm), if_neg (fun e => h (by cases e; rfl))]
theorem look_updH (H : Heap) : ∀ (upd : List (Nat × Option Blk)) (id : Nat), look (updH H upd) id = match modOf upd id with | some x => x | none => look H id
  | [], id => rfl
  | (i, some B) :: r, id => by
    simp only [updH, look, modOf]
    by_cases h : i = id
    · rw [if_pos h, if_pos h]
    · rw [if_neg h, if_neg h, look_del, if_neg (fun e => h e.symm)]; exact look_updH H r id
  | (i, none) :: r, id => by
    simp only [updH, look, modOf]
    by_cases h : i = id
    · rw [if_pos h, look_del, if_pos h.symm]
    · rw [if_neg h, look_del, if_neg (fun e => h e.symm)]; exact look_updH H r id
theorem updO_modOf (H : Owner) (A : Allow) : ∀ (upd : List (Nat × Option Blk)) (id : Nat), updO H A upd id = match modOf upd id with | some x => x.map fun B => (B, A) | none => H id
  | [], id => rfl
  | (i, x) :: r, id => by
    simp only [updO, modOf, look]
    by_cases h : id = i
    · rw [if_pos h, if_pos h.symm]
    · rw [if_neg h, if_neg (fun e => h e.symm)]; exact updO_modOf H A r id
def gval (want : Bool) : Value → Bool
  | .bool b => b == want
  | _ => false
def guardOf (all : Array Oper) (fr : Fr) (o : Oper) : Option Bool :=
  match o.guard with
  | none => some true
  | some (j, want) => match ((all[j]?).bind (·.dst)).bind (look fr) with
    | some (.lit v) => some (gval want v)
    | _ => none
structure Good (P : Program) (Γ : List (Nat × List AVal)) (o : Oper) (ev : Operand → Option AVal) (get : Nat → Option Blk) (k : Nat) (out : Out) : Prop where
  ok : OpOk P Γ o ev get k out
  rds : ∀ id, id ∈ out.rds → (get id).isSome = true
  le : k ≤ out.k
structure Foot where
  rds : List Nat
  mods : List Nat
  k : Nat
  k' : Nat
def Run (P : Program) (Γ : List (Nat × List AVal)) (all : Array Oper) : List Oper → Nat → Fr → Heap → (List Foot → Nat → Fr → Heap → Prop) → Prop
  | [], k, fr, H, K => K [] k fr H
  | o :: r, k, fr, H, K =>
    (guardOf all fr o = some false ∧ Run P Γ all r k (putO fr o.dst (.lit undef)) H (fun tr => K (⟨[], [], k, k⟩ :: tr))) ∨
    (guardOf all fr o = some true ∧ ∃ out, Good P Γ o (aeval Γ fr) (look H) k out ∧ Run P Γ all r out.k (putO fr o.dst out.v) (updH H out.upd) (fun tr => K (⟨out.rds, out.upd.map (·.1), k, out.k⟩ :: tr)))
def dstOk (nt : Nat) (ops : Array Oper) : Bool := ops.toList.all fun o => match o.dst with | some d => decide (d < nt) | none => true
section
variable {P : Program} {Γ : List (Nat × List AVal)} {nt kb : Nat} {Q : AQ} {k : Nat} {fr : Fr} {H : Heap}
theorem alw_or (A0 : Allow) (kb k k' : Nat) (h0 : kb ≤ k) (h : k ≤ k') : (fun i => alw A0 kb k i ∨ (k ≤ i ∧ i < k')) = alw A0 kb k' := funext fun i => by
  simp only [alw, eq_iff_iff]
  constructor
  · rintro ((h | h) | h)
    · exact .inl h
    · exact .inr ⟨h.1, by omega⟩
    · exact .inr ⟨by omega, h.2⟩
  · rintro (h | h)
    · exact .inl (.inl h)
    · by_cases hi : i < k
      · exact .inl (.inr ⟨h.1, hi⟩)
      · exact .inr ⟨by omega, h.2⟩
theorem alw_lt {A0 : Allow} {kb k : Nat} (hA0 : ∀ i, A0 i → i < kb) (h : kb ≤ k) : ∀ i, alw A0 kb k i → i < k := fun i hi => by
  rcases hi with hi | hi
  · have := hA0 i hi; omega
  · exact hi.2
theorem put_getD (a : Act) (d : Option Nat) (cv : Value) (t : Nat) (hd : ∀ x, d = some x → x < a.tmps.size) : (a.put d cv).tmps.getD t undef = if d = some t then cv else a.tmps.getD t undef := by
  cases d with
  | none => simp [Act.put]
  | some x =>
    have hx := hd x rfl
    simp only [Act.put, Array.getD_eq_getD_getElem?]
    by_cases h : x = t
    · subst h; rw [if_pos rfl, Array.getElem?_setIfInBounds_self_of_lt hx]; rfl
    · rw [if_neg (fun e => h (by cases e; rfl)), Array.getElem?_setIfInBounds_ne h]
theorem put_size (a : Act) (d : Option Nat) (cv : Value) : (a.put d cv).tmps.size = a.tmps.size := by cases d <;> simp [Act.put]
theorem put_defers (a : Act) (d : Option Nat) (cv : Value) : (a.put d cv).defers = a.defers := by cases d <;> rfl
theorem dstOk_spec {ops : Array Oper} (h : dstOk nt ops = true) {i : Nat} {o : Oper} (hi : ops[i]? = some o) : ∀ x, o.dst = some x → x < nt := by
  intro x hx
  have := List.all_eq_true.1 h o (by simpa using Array.mem_of_getElem? hi)
  rw [hx] at this
  simpa using this
theorem guard_wanted {ops : Array Oper} {o : Oper} {a : Act} {b : Bool} (hd : dstOk nt ops = true) (hsz : a.tmps.size = nt)
    (hslot : ∀ j want, o.guard = some (j, want) → ∀ t, (ops[j]?).bind (·.dst) = some t → ∀ c, look fr t = some (.lit c) → a.tmps.getD t undef = c) (hg : guardOf ops fr o = some b) :
    Region.wanted o (yielded ops a.tmps) = b := by
  unfold guardOf at hg
  unfold Region.wanted
  cases hgd : o.guard with
  | none => rw [hgd] at hg; cases hg; rfl
  | some jw =>
    obtain ⟨j, want⟩ := jw
    rw [hgd] at hg
    simp only at hg ⊢
    split at hg
    · rename_i c hc
      cases hg
      obtain ⟨t, ht, hl⟩ := Option.bind_eq_some_iff.1 hc
      have h1 := hslot j want hgd t ht c hl
      obtain ⟨o', ho', hd'⟩ := Option.bind_eq_some_iff.1 ht
      have hlt : t < a.tmps.size := by rw [hsz]; exact dstOk_spec hd ho' t hd'
      unfold yielded
      rw [ht]
      have h2 : a.tmps[t]? = some c := by
        rw [Array.getD_eq_getD_getElem?, Array.getElem?_eq_getElem hlt] at h1
        rw [Array.getElem?_eq_getElem hlt]
        simpa using h1
      simp only [Option.bind_some, h2]
      cases c <;> first | rfl | (rename_i c; cases c <;> cases want <;> rfl)
    · cases hg
theorem run_wpOps {ops : Array Oper} (hd : dstOk nt ops = true) {A0 : Allow} (hA0 : ∀ i, A0 i → i < kb) {w0 : World} {G0 : Nat → Prop} {ρ0 : Names} {Q' : Exit → Act → World → Prop} :
    ∀ (l : List Oper) (i : Nat), (∀ j, l[j]? = ops[i + j]?) → ∀ (k : Nat) (fr : Fr) (H : Heap) (K : List Foot → Nat → Fr → Heap → Prop), kb ≤ k → Run P Γ ops l k fr H K →
      ∀ w G ρ a, Inv Γ nt w G ρ (alw A0 kb k) a fr H → Step (below kb) w0 G0 ρ0 w G ρ →
      (∀ tr k' fr' H' G' ρ' a' w', K tr k' fr' H' → kb ≤ k' → Inv Γ nt w' G' ρ' (alw A0 kb k') a' fr' H' → Step (below kb) w0 G0 ρ0 w' G' ρ' → Q' .normal a' w') → wpOps P ops Q' (List.range' i l.length) a w := by
  intro l
  induction l with
  | nil =>
    intro i hl k fr H K hk hrun w G ρ a hi hs hK
    exact hK [] k fr H G ρ a w hrun hk hi hs
  | cons o r ih =>
    intro i hl k fr H K hk hrun w G ρ a hi hs hK
    have ho : ops[i]? = some o := by have := hl 0; simpa using this.symm
    have hdst := dstOk_spec hd ho
    have hl' : ∀ j, r[j]? = ops[i + 1 + j]? := fun j => by have := hl (j + 1); rw [List.getElem?_cons_succ] at this; rw [this]; congr 1; omega
    have hslot : ∀ j want, o.guard = some (j, want) → ∀ t, (ops[j]?).bind (·.dst) = some t → ∀ c, look fr t = some (.lit c) → a.tmps.getD t undef = c :=
      fun j want _ t _ c hc => V_bool (hi.frm t _ hc)
    have hlt := alw_lt (A0 := A0) hA0 hk
    rw [List.length_cons, List.range'_succ, wpOps_cons]
    unfold wpOp
    rw [ho]
    rcases hrun with ⟨hg, hrun⟩ | ⟨hg, out, ⟨hop, hrds, hkk⟩, hrun⟩
    · simp only [guard_wanted hd hi.size hslot hg, Bool.false_eq_true, if_false]
      refine ih (i + 1) hl' k _ H _ hk hrun w G ρ (a.put o.dst undef) ⟨hi.rel, by rw [put_size]; exact hi.size, by rw [put_defers]; exact hi.defers, fun t v hv => ?_⟩ hs (fun tr k' fr' H' G' ρ' a' w' h1 => hK _ k' fr' H' G' ρ' a' w' h1)
      rw [look_putO] at hv
      rw [put_getD a o.dst undef t (fun x hx => by rw [hi.size]; exact hdst x hx)]
      split at hv
      · rename_i he; cases hv; rw [if_pos he]; exact .lit
      · rename_i hne; rw [if_neg hne]; exact hi.frm t v hv
    · simp only [guard_wanted hd hi.size hslot hg, if_true]
      left
      have hHof : ∀ id B A', ofHeap H (alw A0 kb k) id = some (B, A') → A' = alw A0 kb k := fun id B A' hH => by
        simp only [ofHeap, Option.map_eq_some_iff] at hH
        obtain ⟨B', _, he⟩ := hH
        cases he; rfl
      refine hop w G ρ (ofHeap H (alw A0 kb k)) (alw A0 kb k) a hi.rel hlt (fun j h1 h2 => ?_) (fun id hid => ?_) (fun x _ v hv => aeval_V hi hv) _ Q' (fun w' G' ρ' cv hrel hv hst => ?_)
      · refine ⟨?_, fun id B A' hH hA => ?_⟩
        · cases hρ : ρ j with
          | none => rfl
          | some x =>
            cases hH : ofHeap H (alw A0 kb k) j with
            | none => rw [hi.rel.dom j hH] at hρ; cases hρ
            | some y =>
              obtain ⟨B, A⟩ := y
              have hA := (hi.rel.blk j B A hH).1
              rw [hHof j B A hH] at hA
              have := hlt j hA; omega
        · rw [hHof id B A' hH] at hA
          have := hlt j hA; omega
      · obtain ⟨B, hB⟩ := Option.isSome_iff_exists.1 (hrds id hid)
        exact ⟨B, alw A0 kb k, hB, by simp only [ofHeap, hB, Option.map_some], fun _ h => h⟩
      · have hst' : Step (below kb) w G ρ w' G' ρ' := ⟨hst.size, hst.keep, hst.shape, hst.g, hst.g', hst.own, fun j hj => hst.ids j (fun hc => by simp only [below] at hj; omega), hst.os, hst.tape, hst.output⟩
        rw [alw_or A0 kb k out.k hk hkk] at hrel hv
        have hup : ∀ j, alw A0 kb k j → alw A0 kb out.k j := fun j hj => by
          rcases hj with hj | hj
          · exact .inl hj
          · exact .inr ⟨hj.1, by omega⟩
        refine ih (i + 1) hl' out.k _ _ _ (by omega) hrun w' G' ρ' (a.put o.dst cv) ⟨?_, by rw [put_size]; exact hi.size, by rw [put_defers]; exact hi.defers, fun t v hv' => ?_⟩ (hs.trans hst' (fun _ h => h)) (fun tr k' fr' H' G' ρ' a' w' h1 => hK _ k' fr' H' G' ρ' a' w' h1)
        · refine hrel.allow _ (fun id hid => ?_) (fun id B A' hid => ?_)
          · simp only [ofHeap, Option.map_eq_none_iff] at hid
            rw [look_updH] at hid
            rw [updO_modOf]
            split at hid
            · rename_i x hx; rw [hid]; rfl
            · rename_i hx; simp only [ofHeap, hid, Option.map_none]
          · simp only [ofHeap, Option.map_eq_some_iff] at hid
            obtain ⟨B', hB', he⟩ := hid
            cases he
            rw [look_updH] at hB'
            rw [updO_modOf]
            split at hB'
            · rename_i x hx; rw [hB']; exact ⟨alw A0 kb out.k, rfl, fun _ h => h⟩
            · rename_i hx; exact ⟨alw A0 kb k, by simp only [ofHeap, hB', Option.map_some], hup⟩
        · rw [look_putO] at hv'
          rw [put_getD a o.dst cv t (fun x hx => by rw [hi.size]; exact hdst x hx)]
          split at hv'
          · rename_i he; cases hv'; rw [if_pos he]; exact hv
          · rename_i hne; rw [if_neg hne]
            exact (hi.frm t v hv').step hi.rel hst (fun j hj hc => by have := hlt j hj; omega) hup
theorem W_region {id : Nat} {ops : Array Oper} (hd : dstOk nt ops = true) (h : Run P Γ ops ops.toList k fr H (fun _ k' fr' H' => kb ≤ k' → Q .normal k' fr' H')) : W P Γ nt kb (.region id ops false) Q k fr H := fun A0 hA0 hk w G ρ a hi => by
  refine wp_region ?_
  have := run_wpOps (kb := kb) (Q' := Post Γ nt A0 kb w G ρ Q) hd hA0 ops.toList 0 (fun j => by rw [Array.getElem?_toList, Nat.zero_add]) k fr H _ hk h w G ρ a hi (Step.refl _ _ _ _)
    (fun tr k' fr' H' G' ρ' a' w' hK hk' hi' hs' => ⟨G', ρ', k', fr', H', hK hk', hk', hi', hs'⟩)
  rw [Array.length_toList, ← List.range_eq_range'] at this
  exact this
end
end Go.AM
end
section
namespace Go.AM
inductive Bef (ops : Array Oper) : Nat → Nat → Prop
  | edge {i o e} : ops[i]? = some o → e ∈ o.after → Region.binds .any e = true → Bef ops e.on i
  | trans {a b c} : Bef ops a b → Bef ops b c → Bef ops a c
def befB (ops : Array Oper) : Nat → Nat → Nat → Bool
  | 0, _, _ => false
  | f + 1, j, i => match ops[i]? with
    | some o => o.after.toList.any fun e => Region.binds .any e && (e.on == j || befB ops f j e.on)
    | none => false
theorem befB_spec {ops : Array Oper} : ∀ (f j i : Nat), befB ops f j i = true → Bef ops j i := by
  intro f
  induction f with
  | zero => intro j i h; cases h
  | succ f ih =>
    intro j i h
    simp only [befB] at h
    split at h
    · rename_i o ho
      obtain ⟨e, he', hb⟩ := List.any_eq_true.1 h
      have he : e ∈ o.after := by simpa using he'
      simp only [Bool.and_eq_true, Bool.or_eq_true, beq_iff_eq] at hb
      obtain ⟨h1, h2⟩ := hb
      rcases h2 with rfl | h2
      · exact .edge ho he h1
      · exact .trans (ih j e.on h2) (.edge ho he h1)
    · cases h
def readsOf (ops : Array Oper) (o : Oper) : List Nat :=
  (o.op.operands.toList.filterMap fun | .tmp t => some t | _ => none) ++ (match o.guard with | some (j, _) => ((ops[j]?).bind (·.dst)).toList | none => [])
def meets (a b : List Nat) : Bool := a.any fun x => b.contains x
def dstL (o : Oper) : List Nat := o.dst.toList
def clash (ops : Array Oper) (oj : Oper) (fj : Foot) (oi : Oper) (fi : Foot) : Bool :=
  meets (dstL oj) (readsOf ops oi) || meets (dstL oj) (dstL oi) || meets (dstL oi) (readsOf ops oj) || meets fj.mods fi.rds || meets fj.mods fi.mods || meets fj.rds fi.mods
def drawOk (ops : Array Oper) (tr : List Foot) : Bool :=
  (List.range ops.size).all fun i => match ops[i]?, tr[i]? with
    | some oi, some fi => (oi.after.toList.all fun e => !Region.binds .any e || decide (e.on < i)) && (fi.mods.all fun x => decide (x < fi.k')) &&
        (List.range i).all fun j => match ops[j]?, tr[j]? with
          | some oj, some fj => !clash ops oj fj oi fi || befB ops ops.size j i
          | _, _ => false
    | _, _ => false
theorem meets_no {a b : List Nat} (h : meets a b = false) {x : Nat} (h1 : x ∈ a) (h2 : x ∈ b) : False := by
  unfold meets at h
  have := List.any_eq_false.1 h x h1
  simp at this
  exact this h2
section
variable {P : Program} {Γ : List (Nat × List AVal)} {nt kb : Nat} {Q : AQ} {k : Nat} {fr : Fr} {H : Heap}
def TStep (P : Program) (Γ : List (Nat × List AVal)) (ops : Array Oper) (o : Oper) (k : Nat) (fr : Fr) (H : Heap) (out : Option Out) (k' : Nat) (fr' : Fr) (H' : Heap) : Prop :=
  match out with
  | none => guardOf ops fr o = some false ∧ k' = k ∧ fr' = putO fr o.dst (.lit undef) ∧ H' = H
  | some out => guardOf ops fr o = some true ∧ Good P Γ o (aeval Γ fr) (look H) k out ∧ k' = out.k ∧ fr' = putO fr o.dst out.v ∧ H' = updH H out.upd
def footOf (k k' : Nat) : Option Out → Foot
  | none => ⟨[], [], k, k'⟩
  | some out => ⟨out.rds, out.upd.map (·.1), k, k'⟩
theorem run_text {ops : Array Oper} : ∀ (l : List Oper) (k : Nat) (fr : Fr) (H : Heap) (K : List Foot → Nat → Fr → Heap → Prop), Run P Γ ops l k fr H K →
    ∃ (kf : Nat → Nat) (frf : Nat → Fr) (Hf : Nat → Heap) (outf : Nat → Option Out), kf 0 = k ∧ frf 0 = fr ∧ Hf 0 = H ∧
      (∀ j o, l[j]? = some o → TStep P Γ ops o (kf j) (frf j) (Hf j) (outf j) (kf (j + 1)) (frf (j + 1)) (Hf (j + 1))) ∧
      ∃ tr : List Foot, tr.length = l.length ∧ (∀ j, j < l.length → tr[j]? = some (footOf (kf j) (kf (j + 1)) (outf j))) ∧ K tr (kf l.length) (frf l.length) (Hf l.length) := by
  intro l
  induction l with
  | nil => intro k fr H K h; exact ⟨fun _ => k, fun _ => fr, fun _ => H, fun _ => none, rfl, rfl, rfl, fun j o hj => by simp at hj, [], rfl, fun j hj => by simp at hj, h⟩
  | cons o r ih =>
    intro k fr H K h
    rcases h with ⟨hg, h⟩ | ⟨hg, out, hgood, h⟩
    · obtain ⟨kf, frf, Hf, outf, h1, h2, h3, h4, tr, h5, h6, h7⟩ := ih _ _ _ _ h
      refine ⟨fun j => match j with | 0 => k | j + 1 => kf j, fun j => match j with | 0 => fr | j + 1 => frf j, fun j => match j with | 0 => H | j + 1 => Hf j, fun j => match j with | 0 => none | j + 1 => outf j, rfl, rfl, rfl, fun j o' hj => ?_, ⟨[], [], k, k⟩ :: tr, by simp [h5], fun j hj => ?_, h7⟩
      · cases j with
        | zero => cases hj; exact ⟨hg, h1, h2, h3⟩
        | succ j => exact h4 j o' (by simpa using hj)
      · cases j with
        | zero => simp [footOf, h1]
        | succ j => exact h6 j (by simpa using hj)
    · obtain ⟨kf, frf, Hf, outf, h1, h2, h3, h4, tr, h5, h6, h7⟩ := ih _ _ _ _ h
      refine ⟨fun j => match j with | 0 => k | j + 1 => kf j, fun j => match j with | 0 => fr | j + 1 => frf j, fun j => match j with | 0 => H | j + 1 => Hf j, fun j => match j with | 0 => some out | j + 1 => outf j, rfl, rfl, rfl, fun j o' hj => ?_, ⟨out.rds, out.upd.map (·.1), k, out.k⟩ :: tr, by simp [h5], fun j hj => ?_, h7⟩
      · cases j with
        | zero => cases hj; exact ⟨hg, hgood, h1, h2, h3⟩
        | succ j => exact h4 j o' (by simpa using hj)
      · cases j with
        | zero => simp [footOf, h1]
        | succ j => exact h6 j (by simpa using hj)
structure Text (A0 : Allow) (P : Program) (Γ : List (Nat × List AVal)) (ops : Array Oper) (kf : Nat → Nat) (frf : Nat → Fr) (Hf : Nat → Heap) (outf : Nat → Option Out) : Prop where
  init : ∀ x, A0 x → x < kf 0
  step : ∀ j o, ops[j]? = some o → TStep P Γ ops o (kf j) (frf j) (Hf j) (outf j) (kf (j + 1)) (frf (j + 1)) (Hf (j + 1))
  low : ∀ i o e, ops[i]? = some o → e ∈ o.after → Region.binds .any e = true → e.on < i
  mods : ∀ i o out x, ops[i]? = some o → outf i = some out → x ∈ out.upd.map (·.1) → x < kf (i + 1)
  apart : ∀ i j oi oj, j < i → ops[i]? = some oi → ops[j]? = some oj → clash ops oj (footOf (kf j) (kf (j + 1)) (outf j)) oi (footOf (kf i) (kf (i + 1)) (outf i)) = true → Bef ops j i
variable {A0 : Allow} {ops : Array Oper} {kf : Nat → Nat} {frf : Nat → Fr} {Hf : Nat → Heap} {outf : Nat → Option Out}
def vals (outf : Nat → Option Out) (j : Nat) : AVal := match outf j with | some out => out.v | none => .lit undef
def newN (kf : Nat → Nat) (j x : Nat) : Prop := kf j ≤ x ∧ x < kf (j + 1)
def Apre (A0 : Allow) (ops : Array Oper) (kf : Nat → Nat) (i : Nat) : Allow := fun x => A0 x ∨ ∃ j, j < ops.size ∧ Bef ops j i ∧ newN kf j x
def Aop (A0 : Allow) (ops : Array Oper) (kf : Nat → Nat) (i : Nat) : Allow := fun x => Apre A0 ops kf i x ∨ newN kf i x
def dstAt (ops : Array Oper) (j : Nat) : Option Nat := (ops[j]?).bind (·.dst)
def modAt (outf : Nat → Option Out) (j id : Nat) : Option (Option Blk) := match outf j with | some out => modOf out.upd id | none => none
def frD (A0 : Allow) (ops : Array Oper) (kf : Nat → Nat) (fr0 : Fr) (outf : Nat → Option Out) (D : Nat → Bool) : Nat → Nat → Option (AVal × Allow)
  | 0, t => (look fr0 t).map fun v => (v, A0)
  | m + 1, t => if D m = true ∧ dstAt ops m = some t then some (vals outf m, Aop A0 ops kf m) else frD A0 ops kf fr0 outf D m t
def HD (A0 : Allow) (ops : Array Oper) (kf : Nat → Nat) (H0 : Heap) (outf : Nat → Option Out) (D : Nat → Bool) : Nat → Owner
  | 0, id => ofHeap H0 A0 id
  | m + 1, id => if D m = true then (match modAt outf m id with | some x => x.map fun B => (B, Aop A0 ops kf m) | none => HD A0 ops kf H0 outf D m id) else HD A0 ops kf H0 outf D m id
theorem frD_congr {fr0 : Fr} {D D' : Nat → Bool} {t : Nat} : ∀ (m : Nat), (∀ j, j < m → dstAt ops j = some t → D j = D' j) → frD A0 ops kf fr0 outf D m t = frD A0 ops kf fr0 outf D' m t := by
  intro m
  induction m with
  | zero => intro _; rfl
  | succ m ih =>
    intro h
    simp only [frD]
    rw [ih (fun j hj => h j (by omega))]
    by_cases hd : dstAt ops m = some t
    · rw [h m (by omega) hd]
    · rw [if_neg (fun c => hd c.2), if_neg (fun c => hd c.2)]
theorem HD_congr {H0 : Heap} {D D' : Nat → Bool} {id : Nat} : ∀ (m : Nat), (∀ j, j < m → (modAt outf j id).isSome = true → D j = D' j) → HD A0 ops kf H0 outf D m id = HD A0 ops kf H0 outf D' m id := by
  intro m
  induction m with
  | zero => intro _; rfl
  | succ m ih =>
    intro h
    simp only [HD]
    rw [ih (fun j hj => h j (by omega))]
    cases hm : modAt outf m id with
    | none => simp
    | some x => rw [h m (by omega) (by rw [hm]; rfl)]
theorem frD_cut {fr0 : Fr} {t i : Nat} : ∀ (m : Nat), i ≤ m → frD A0 ops kf fr0 outf (fun j => decide (j < i)) m t = frD A0 ops kf fr0 outf (fun _ => true) i t := by
  intro m
  induction m with
  | zero => intro h; have : i = 0 := by omega
            subst this; rfl
  | succ m ih =>
    intro h
    by_cases he : i = m + 1
    · subst he; exact frD_congr _ (fun j hj _ => by simp; omega)
    · simp only [frD]
      rw [if_neg (by simp; omega)]
      exact ih (by omega)
theorem HD_cut {H0 : Heap} {id i : Nat} : ∀ (m : Nat), i ≤ m → HD A0 ops kf H0 outf (fun j => decide (j < i)) m id = HD A0 ops kf H0 outf (fun _ => true) i id := by
  intro m
  induction m with
  | zero => intro h; have : i = 0 := by omega
            subst this; rfl
  | succ m ih =>
    intro h
    by_cases he : i = m + 1
    · subst he; exact HD_congr _ (fun j hj _ => by simp; omega)
    · simp only [HD]
      rw [if_neg (by simp; omega)]
      exact ih (by omega)
theorem frD_text (T : Text A0 P Γ ops kf frf Hf outf) {t : Nat} : ∀ (i : Nat), i ≤ ops.size → (frD A0 ops kf (frf 0) outf (fun _ => true) i t).map (·.1) = look (frf i) t := by
  intro i
  induction i with
  | zero => intro _; simp only [frD]; cases look (frf 0) t <;> rfl
  | succ i ih =>
    intro hi
    have ho : ops[i]? = some ops[i] := Array.getElem?_eq_getElem (by omega)
    have hs := T.step i _ ho
    simp only [frD, true_and]
    have hd : dstAt ops i = (ops[i]).dst := by simp [dstAt, ho]
    unfold TStep at hs
    cases hout : outf i with
    | none =>
      rw [hout] at hs
      rw [hs.2.2.1, look_putO, hd]
      split
      · simp [vals, hout]
      · exact ih (by omega)
    | some out =>
      rw [hout] at hs
      rw [hs.2.2.2.1, look_putO, hd]
      split
      · simp [vals, hout]
      · exact ih (by omega)
theorem HD_text (T : Text A0 P Γ ops kf frf Hf outf) {id : Nat} : ∀ (i : Nat), i ≤ ops.size → (HD A0 ops kf (Hf 0) outf (fun _ => true) i id).map (·.1) = look (Hf i) id := by
  intro i
  induction i with
  | zero => intro _; simp only [HD, ofHeap]; cases look (Hf 0) id <;> rfl
  | succ i ih =>
    intro hi
    have ho : ops[i]? = some ops[i] := Array.getElem?_eq_getElem (by omega)
    have hs := T.step i _ ho
    simp only [HD, if_true]
    unfold TStep at hs
    cases hout : outf i with
    | none =>
      rw [hout] at hs
      rw [hs.2.2.2]
      simp only [modAt, hout]
      exact ih (by omega)
    | some out =>
      rw [hout] at hs
      rw [hs.2.2.2.2, look_updH]
      simp only [modAt, hout]
      cases hx : modOf out.upd id with
      | none => exact ih (by omega)
      | some x => cases x <;> rfl
theorem kf_mono (T : Text A0 P Γ ops kf frf Hf outf) : ∀ (j i : Nat), i ≤ j → j ≤ ops.size → kf i ≤ kf j := by
  intro j
  induction j with
  | zero => intro i h _; have : i = 0 := by omega
            subst this; exact Nat.le_refl _
  | succ j ih =>
    intro i h hj
    by_cases he : i = j + 1
    · subst he; exact Nat.le_refl _
    · have h1 := ih i (by omega) (by omega)
      have ho : ops[j]? = some ops[j] := Array.getElem?_eq_getElem (by omega)
      have hs := T.step j _ ho
      unfold TStep at hs
      cases hout : outf j with
      | none => rw [hout] at hs; rw [hs.2.1]; exact h1
      | some out => rw [hout] at hs; rw [hs.2.2.1]; exact Nat.le_trans h1 hs.2.1.le
theorem new_inj (T : Text A0 P Γ ops kf frf Hf outf) {i j x : Nat} (hi : i < ops.size) (hj : j < ops.size) (h1 : newN kf i x) (h2 : newN kf j x) : i = j := by
  rcases Nat.lt_trichotomy i j with h | h | h
  · have := kf_mono T j (i + 1) (by omega) (by omega); unfold newN at *; omega
  · exact h
  · have := kf_mono T i (j + 1) (by omega) (by omega); unfold newN at *; omega
theorem new_not_old (T : Text A0 P Γ ops kf frf Hf outf) {i x : Nat} (hi : i < ops.size) (h1 : newN kf i x) (h2 : A0 x) : False := by
  have h3 := T.init x h2
  have := kf_mono T i 0 (by omega) (by omega); unfold newN at *; omega
theorem Bef_lt (T : Text A0 P Γ ops kf frf Hf outf) {i j : Nat} (h : Bef ops j i) : j < i := by
  induction h with
  | edge ho he hb => exact T.low _ _ _ ho he hb
  | trans _ _ h1 h2 => omega
theorem frD_allow {fr0 : Fr} {t i : Nat} (hb : ∀ j, j < i → dstAt ops j = some t → Bef ops j i) : ∀ (m : Nat), m ≤ i → i < ops.size → ∀ v A, frD A0 ops kf fr0 outf (fun _ => true) m t = some (v, A) → ∀ x, A x → Apre A0 ops kf i x := by
  intro m
  induction m with
  | zero =>
    intro _ _ v A h x hx
    simp only [frD, Option.map_eq_some_iff] at h
    obtain ⟨u, _, he⟩ := h
    cases he
    exact .inl hx
  | succ m ih =>
    intro hm hi v A h x hx
    simp only [frD, true_and] at h
    split at h
    · rename_i hd
      cases h
      have hbm := hb m (by omega) hd
      rcases hx with (hx | ⟨j, hj, hbj, hn⟩) | hx
      · exact .inl hx
      · exact .inr ⟨j, hj, .trans hbj hbm, hn⟩
      · exact .inr ⟨m, by omega, hbm, hx⟩
    · exact ih (by omega) hi v A h x hx
theorem HD_allow {H0 : Heap} {id i : Nat} (hb : ∀ j, j < i → (modAt outf j id).isSome = true → Bef ops j i) : ∀ (m : Nat), m ≤ i → i < ops.size → ∀ B A, HD A0 ops kf H0 outf (fun _ => true) m id = some (B, A) → ∀ x, A x → Apre A0 ops kf i x := by
  intro m
  induction m with
  | zero =>
    intro _ _ v A h x hx
    simp only [HD, ofHeap, Option.map_eq_some_iff] at h
    obtain ⟨u, _, he⟩ := h
    cases he
    exact .inl hx
  | succ m ih =>
    intro hm hi v A h x hx
    simp only [HD, if_true] at h
    cases hmod : modAt outf m id with
    | none => rw [hmod] at h; exact ih (by omega) hi v A h x hx
    | some y =>
      rw [hmod] at h
      simp only [Option.map_eq_some_iff] at h
      obtain ⟨B', _, he⟩ := h
      cases he
      have hbm := hb m (by omega) (by rw [hmod]; rfl)
      rcases hx with (hx | ⟨j, hj, hbj, hn⟩) | hx
      · exact .inl hx
      · exact .inr ⟨j, hj, .trans hbj hbm, hn⟩
      · exact .inr ⟨m, by omega, hbm, hx⟩
theorem allow_old (T : Text A0 P Γ ops kf frf Hf outf) {D : Nat → Bool} (hD : ∀ j, D j = true → ∀ l, Bef ops l j → D l = true) {i : Nat} (hi : i < ops.size) (hDi : D i = false) {x : Nat} (hx : newN kf i x) {j : Nat} (hj : j < ops.size) (hDj : D j = true) : ¬ Aop A0 ops kf j x := by
  rintro ((h | ⟨l, hl, hb, hn⟩) | h)
  · exact new_not_old T hi hx h
  · have := new_inj T hi hl hx hn
    subst this
    rw [hD j hDj _ hb] at hDi; cases hDi
  · have := new_inj T hi hj hx h
    subst this
    rw [hDj] at hDi; cases hDi
theorem frD_old (T : Text A0 P Γ ops kf frf Hf outf) {fr0 : Fr} {D : Nat → Bool} (hD : ∀ j, D j = true → ∀ l, Bef ops l j → D l = true) {i : Nat} (hi : i < ops.size) (hDi : D i = false) {x : Nat} (hx : newN kf i x) {t : Nat} :
    ∀ (m : Nat), m ≤ ops.size → ∀ v A, frD A0 ops kf fr0 outf D m t = some (v, A) → ¬ A x := by
  intro m
  induction m with
  | zero =>
    intro _ v A h hA
    simp only [frD, Option.map_eq_some_iff] at h
    obtain ⟨u, _, he⟩ := h
    cases he
    exact new_not_old T hi hx hA
  | succ m ih =>
    intro hm v A h
    simp only [frD] at h
    split at h
    · rename_i hd; cases h; exact allow_old T hD hi hDi hx (by omega) hd.1
    · exact ih (by omega) v A h
theorem HD_old (T : Text A0 P Γ ops kf frf Hf outf) {H0 : Heap} {D : Nat → Bool} (hD : ∀ j, D j = true → ∀ l, Bef ops l j → D l = true) {i : Nat} (hi : i < ops.size) (hDi : D i = false) {x : Nat} (hx : newN kf i x) {id : Nat} :
    ∀ (m : Nat), m ≤ ops.size → ∀ B A, HD A0 ops kf H0 outf D m id = some (B, A) → ¬ A x := by
  intro m
  induction m with
  | zero =>
    intro _ v A h hA
    simp only [HD, ofHeap, Option.map_eq_some_iff] at h
    obtain ⟨u, _, he⟩ := h
    cases he
    exact new_not_old T hi hx hA
  | succ m ih =>
    intro hm v A h
    simp only [HD] at h
    split at h
    · rename_i hd
      cases hmod : modAt outf m id with
      | none => rw [hmod] at h; exact ih (by omega) v A h
      | some y =>
        rw [hmod] at h
        simp only [Option.map_eq_some_iff] at h
        obtain ⟨B', _, he⟩ := h
        cases he
        exact allow_old T hD hi hDi hx (by omega) hd
    · exact ih (by omega) v A h
theorem frD_set {fr0 : Fr} {D : Nat → Bool} {i t : Nat} (hn : dstAt ops i = some t → ∀ j, i < j → D j = true → dstAt ops j ≠ some t) : ∀ (m : Nat), i < m →
    frD A0 ops kf fr0 outf (fun j => if j = i then true else D j) m t = if dstAt ops i = some t then some (vals outf i, Aop A0 ops kf i) else frD A0 ops kf fr0 outf D m t := by
  intro m
  induction m with
  | zero => intro h; omega
  | succ m ih =>
    intro h
    by_cases he : m = i
    · subst he
      simp only [frD, if_true, true_and]
      by_cases hd : dstAt ops m = some t
      · rw [if_pos hd, if_pos hd]
      · rw [if_neg hd, if_neg hd, if_neg (fun c => hd c.2)]
        exact frD_congr _ (fun j hj _ => by rw [if_neg (by omega)])
    · simp only [frD, if_neg he]
      rw [ih (by omega)]
      by_cases hd : dstAt ops i = some t
      · rw [if_pos hd, if_pos hd]
        split
        · rename_i hc; exact absurd hc.2 (hn hd m (by omega) hc.1)
        · rfl
      · rw [if_neg hd, if_neg hd]
theorem HD_set {H0 : Heap} {D : Nat → Bool} {i id : Nat} (hn : (modAt outf i id).isSome = true → ∀ j, i < j → D j = true → modAt outf j id = none) (hDi : D i = false) : ∀ (m : Nat), i < m →
    HD A0 ops kf H0 outf (fun j => if j = i then true else D j) m id = match modAt outf i id with | some x => x.map fun B => (B, Aop A0 ops kf i) | none => HD A0 ops kf H0 outf D m id := by
  intro m
  induction m with
  | zero => intro h; omega
  | succ m ih =>
    intro h
    by_cases he : m = i
    · subst he
      simp only [HD, if_true]
      have hc : HD A0 ops kf H0 outf (fun j => if j = m then true else D j) m id = HD A0 ops kf H0 outf D m id := HD_congr _ (fun j hj _ => by rw [if_neg (by omega)])
      rw [hc, if_neg (by rw [hDi]; simp)]
    · simp only [HD, if_neg he]
      rw [ih (by omega)]
      cases hm : modAt outf i id with
      | none => rfl
      | some x =>
        simp only
        split
        · rename_i hDm
          rw [hn (by rw [hm]; rfl) m (by omega) hDm]
        · rfl
def closed (ops : Array Oper) (D : Nat → Bool) : Prop := ∀ j, D j = true → ∀ l, Bef ops l j → D l = true
theorem closed_of_edges {D : Nat → Bool} (h : ∀ i o e, D i = true → ops[i]? = some o → e ∈ o.after → Region.binds .any e = true → D e.on = true) : closed ops D := by
  intro j hj l hb
  induction hb with
  | edge ho he hb => exact h _ _ _ hj ho he hb
  | trans h1 h2 ih1 ih2 => exact ih1 (ih2 hj)
theorem ready_bef {D : Nat → Bool} (hc : closed ops D) {i : Nat} {o : Oper} (ho : ops[i]? = some o) (hr : ∀ e, e ∈ o.after → Region.binds .any e = true → D e.on = true) : ∀ {l}, Bef ops l i → D l = true := by
  intro l hb
  have key : ∀ {a b}, Bef ops a b → b = i → D a = true := by
    intro a b hb
    induction hb with
    | edge ho' he hb' => intro h; subst h; rw [ho] at ho'; cases ho'; exact hr _ he hb'
    | trans h1 h2 ih1 ih2 => intro h; exact hc _ (ih2 h) _ h1
  exact key hb rfl
structure DInv (A0 : Allow) (Γ : List (Nat × List AVal)) (nt : Nat) (ops : Array Oper) (kf : Nat → Nat) (fr0 : Fr) (H0 : Heap) (outf : Nat → Option Out) (D : Nat → Bool) (w : World) (G : Nat → Prop) (ρ : Names) (a : Act) : Prop where
  rel : HRel Γ w G ρ (HD A0 ops kf H0 outf D ops.size)
  size : a.tmps.size = nt
  defers : a.defers = []
  frm : ∀ t v A, frD A0 ops kf fr0 outf D ops.size t = some (v, A) → V w G ρ A v (a.tmps.getD t undef)
theorem foot_rds {i : Nat} {out : Out} (h : outf i = some out) : (footOf (kf i) (kf (i + 1)) (outf i)).rds = out.rds := by rw [h]; rfl
theorem foot_mods {i : Nat} {out : Out} (h : outf i = some out) : (footOf (kf i) (kf (i + 1)) (outf i)).mods = out.upd.map (·.1) := by rw [h]; rfl
theorem mod_mem : ∀ {upd : List (Nat × Option Blk)} {id : Nat}, (modOf upd id).isSome = true → id ∈ upd.map (·.1)
  | [], id, h => by simp [modOf, look] at h
  | (i, x) :: r, id, h => by
    simp only [modOf, look] at h
    split at h
    · rename_i he; simp [he]
    · simp only [List.map_cons, List.mem_cons]; exact .inr (mod_mem h)
theorem modAt_foot {j id : Nat} (h : (modAt outf j id).isSome = true) : id ∈ (footOf (kf j) (kf (j + 1)) (outf j)).mods := by
  unfold modAt at h
  cases hout : outf j with
  | none => rw [hout] at h; simp at h
  | some out => rw [hout] at h; exact mod_mem h
theorem dstL_mem {o : Oper} {t : Nat} (h : o.dst = some t) : t ∈ dstL o := by simp [dstL, h]
theorem clash_of_slot {oj oi : Oper} {fj fi : Foot} {t : Nat} (h1 : oj.dst = some t) (h2 : t ∈ readsOf ops oi) : clash ops oj fj oi fi = true := by
  cases hc : clash ops oj fj oi fi with
  | true => rfl
  | false => simp only [clash, Bool.or_eq_false_iff] at hc; exact (meets_no hc.1.1.1.1.1 (dstL_mem h1) h2).elim
theorem clash_of_slot' {oj oi : Oper} {fj fi : Foot} {t : Nat} (h1 : t ∈ readsOf ops oj) (h2 : oi.dst = some t) : clash ops oj fj oi fi = true := by
  cases hc : clash ops oj fj oi fi with
  | true => rfl
  | false => simp only [clash, Bool.or_eq_false_iff] at hc; exact (meets_no hc.1.1.1.2 (dstL_mem h2) h1).elim
theorem clash_of_dst {oj oi : Oper} {fj fi : Foot} {t : Nat} (h1 : oj.dst = some t) (h2 : oi.dst = some t) : clash ops oj fj oi fi = true := by
  cases hc : clash ops oj fj oi fi with
  | true => rfl
  | false => simp only [clash, Bool.or_eq_false_iff] at hc; exact (meets_no hc.1.1.1.1.2 (dstL_mem h1) (dstL_mem h2)).elim
theorem clash_of_mod {oj oi : Oper} {fj fi : Foot} {x : Nat} (h1 : x ∈ fj.mods) (h2 : x ∈ fi.rds ∨ x ∈ fi.mods) : clash ops oj fj oi fi = true := by
  cases hc : clash ops oj fj oi fi with
  | true => rfl
  | false =>
    simp only [clash, Bool.or_eq_false_iff] at hc
    rcases h2 with h2 | h2
    · exact (meets_no hc.1.1.2 h1 h2).elim
    · exact (meets_no hc.1.2 h1 h2).elim
theorem clash_of_mod' {oj oi : Oper} {fj fi : Foot} {x : Nat} (h1 : x ∈ fj.rds) (h2 : x ∈ fi.mods) : clash ops oj fj oi fi = true := by
  cases hc : clash ops oj fj oi fi with
  | true => rfl
  | false => simp only [clash, Bool.or_eq_false_iff] at hc; exact (meets_no hc.2 h1 h2).elim
theorem draw_step (T : Text A0 P Γ ops kf frf Hf outf) (hd : dstOk nt ops = true) {D : Nat → Bool} (hDs : ∀ j, D j = true → j < ops.size) (hc : closed ops D) {i : Nat} {o : Oper} (ho : ops[i]? = some o) (hDi : D i = false)
    (hr : ∀ e, e ∈ o.after → Region.binds .any e = true → D e.on = true) {w : World} {G : Nat → Prop} {ρ : Names} {a : Act} (hinv : DInv A0 Γ nt ops kf (frf 0) (Hf 0) outf D w G ρ a)
    {K : Act → World → Prop} {Q' : Exit → Act → World → Prop} (hK : ∀ w' G' ρ' a', DInv A0 Γ nt ops kf (frf 0) (Hf 0) outf (fun j => if j = i then true else D j) w' G' ρ' a' → Step (below (kf 0)) w G ρ w' G' ρ' → K a' w') : wpOp P ops Q' i K a w := by
  have hi : i < ops.size := by have := (Array.getElem?_eq_some_iff.1 ho).1; exact this
  have hpre : ∀ {l}, Bef ops l i → D l = true := ready_bef hc ho hr
  have hdsti : dstAt ops i = o.dst := by simp [dstAt, ho]
  have opAt : ∀ j t, dstAt ops j = some t → ∃ oj, ops[j]? = some oj ∧ oj.dst = some t := fun j t h => by
    obtain ⟨oj, h1, h2⟩ := Option.bind_eq_some_iff.1 h; exact ⟨oj, h1, h2⟩
  have hslotD : ∀ t, t ∈ readsOf ops o → (∀ j, j < i → dstAt ops j = some t → Bef ops j i) ∧ (∀ j, dstAt ops j = some t → D j = decide (j < i)) := fun t ht => by
    have h1 : ∀ j, j < i → dstAt ops j = some t → Bef ops j i := fun j hj hdj => by
      obtain ⟨oj, h2, h3⟩ := opAt j t hdj
      exact T.apart i j o oj hj ho h2 (clash_of_slot h3 ht)
    refine ⟨h1, fun j hdj => ?_⟩
    obtain ⟨oj, h2, h3⟩ := opAt j t hdj
    rcases Nat.lt_trichotomy j i with h | h | h
    · rw [hpre (h1 j h hdj)]; simp [h]
    · rw [h, hDi]; simp
    · have hb := T.apart j i oj o h h2 ho (clash_of_slot' ht h3)
      cases hDj : D j with
      | false => simp; omega
      | true => rw [hc j hDj _ hb] at hDi; cases hDi
  have hslot : ∀ t, t ∈ readsOf ops o → ∀ v, look (frf i) t = some v → V w G ρ (Apre A0 ops kf i) v (a.tmps.getD t undef) := fun t ht v hv => by
    obtain ⟨h1, h2⟩ := hslotD t ht
    have h3 := frD_text T (t := t) i (by omega)
    rw [hv] at h3
    simp only [Option.map_eq_some_iff] at h3
    obtain ⟨⟨v', A⟩, h4, h5⟩ := h3
    simp only at h5; subst h5
    have h6 : frD A0 ops kf (frf 0) outf D ops.size t = some (v', A) := by
      rw [frD_congr (D' := fun j => decide (j < i)) ops.size (fun j _ hdj => h2 j hdj), frD_cut ops.size (by omega)]; exact h4
    exact (hinv.frm t v' A h6).mono (fun _ h => h) (fun _ _ => rfl) (fun _ _ => rfl) (frD_allow h1 i (Nat.le_refl _) hi v' A h4) (fun _ _ => .inr rfl)
  have hguard : ∀ b, guardOf ops (frf i) o = some b → Region.wanted o (yielded ops a.tmps) = b := fun b hb =>
    guard_wanted hd hinv.size (fun j want hg t ht c hcl => by
      have := hslot t (by unfold readsOf; rw [hg]; simp [ht]) _ hcl
      exact V_bool this) hb
  have hs := T.step i o ho
  unfold TStep at hs
  have hdst := dstOk_spec hd ho
  have hdn : ∀ t, dstAt ops i = some t → ∀ j, i < j → D j = true → dstAt ops j ≠ some t := fun t ht j hj hDj hdj => by
    obtain ⟨oj, h2, h3⟩ := opAt j t hdj
    rw [hdsti] at ht
    have hb := T.apart j i oj o hj h2 ho (clash_of_dst ht h3)
    rw [hc j hDj _ hb] at hDi; cases hDi
  unfold wpOp
  rw [ho]
  cases hout : outf i with
  | none =>
    rw [hout] at hs
    obtain ⟨hg, hk, hfr, hH⟩ := hs
    simp only [hguard _ hg, Bool.false_eq_true, if_false]
    refine hK w G ρ (a.put o.dst undef) ⟨?_, by rw [put_size]; exact hinv.size, by rw [put_defers]; exact hinv.defers, fun t v A hv => ?_⟩ (Step.refl _ _ _ _)
    · have : HD A0 ops kf (Hf 0) outf (fun j => if j = i then true else D j) ops.size = HD A0 ops kf (Hf 0) outf D ops.size := funext fun id => by
        rw [HD_set (fun h => by simp [modAt, hout] at h) hDi ops.size hi]
        simp [modAt, hout]
      rw [this]; exact hinv.rel
    · rw [frD_set (hdn t) ops.size hi] at hv
      rw [put_getD a o.dst undef t (fun x hx => by rw [hinv.size]; exact hdst x hx)]
      rw [hdsti] at hv
      split at hv
      · rename_i he; cases hv; rw [if_pos he]; simp only [vals, hout]; exact .lit
      · rename_i hne; rw [if_neg hne]; exact hinv.frm t v A hv
  | some out =>
    rw [hout] at hs
    obtain ⟨hg, hgood, hk, hfr, hH⟩ := hs
    simp only [hguard _ hg, if_true]
    left
    have hnew : ∀ x, (kf i ≤ x ∧ x < out.k) ↔ newN kf i x := fun x => by unfold newN; rw [hk]
    have hmod1 : ∀ id, (modAt outf i id).isSome = true → ∀ j, i < j → D j = true → modAt outf j id = none := fun id h j hj hDj => by
      cases hm : modAt outf j id with
      | none => rfl
      | some x =>
        have hj' := hDs j hDj
        have hb := T.apart j i _ o hj (Array.getElem?_eq_getElem hj') ho (clash_of_mod (modAt_foot h) (.inr (modAt_foot (by rw [hm]; rfl))))
        rw [hc j hDj _ hb] at hDi; cases hDi
    refine hgood.ok w G ρ (HD A0 ops kf (Hf 0) outf D ops.size) (Apre A0 ops kf i) a hinv.rel (fun x hx => ?_) (fun x h1 h2 => ?_) (fun id hid => ?_) (fun x hx v hv => ?_) K Q' (fun w' G' ρ' cv hrel hv hst => ?_)
    ·
      rcases hx with hx | ⟨j, hj, hb, hnj⟩
      · have h1 := T.init x hx
        have h2 := kf_mono T i 0 (by omega) (by omega)
        omega
      · have h1 := Bef_lt T hb
        have h2 := kf_mono T i (j + 1) (by omega) (by omega)
        unfold newN at hnj
        omega
    · have hn := (hnew x).1 ⟨h1, h2⟩
      have hold : ∀ id B A, HD A0 ops kf (Hf 0) outf D ops.size id = some (B, A) → ¬ A x := fun id B A h => HD_old T hc hi hDi hn ops.size (Nat.le_refl _) B A h
      refine ⟨?_, hold⟩
      cases hH : HD A0 ops kf (Hf 0) outf D ops.size x with
      | none => exact hinv.rel.dom x hH
      | some y =>
        obtain ⟨B, A⟩ := y
        exact absurd (hinv.rel.blk x B A hH).1 (hold x B A hH)
    ·
      obtain ⟨B, hB⟩ := Option.isSome_iff_exists.1 (hgood.rds id hid)
      have h1 : ∀ j, j < i → (modAt outf j id).isSome = true → Bef ops j i := fun j hj hm =>
        T.apart i j o _ hj ho (Array.getElem?_eq_getElem (by omega)) (clash_of_mod (modAt_foot hm) (.inl (by rw [foot_rds hout]; exact hid)))
      have h2 : ∀ j, j < ops.size → (modAt outf j id).isSome = true → D j = decide (j < i) := fun j hj hm => by
        rcases Nat.lt_trichotomy j i with h | h | h
        · rw [hpre (h1 j h hm)]; simp [h]
        · rw [h, hDi]; simp
        · have hb := T.apart j i _ o h (Array.getElem?_eq_getElem hj) ho (clash_of_mod' (by rw [foot_rds hout]; exact hid) (modAt_foot hm))
          cases hDj : D j with
          | false => simp; omega
          | true => rw [hc j hDj _ hb] at hDi; cases hDi
      have h3 := HD_text T (id := id) i (by omega)
      rw [hB] at h3
      simp only [Option.map_eq_some_iff] at h3
      obtain ⟨⟨B', A⟩, h4, h5⟩ := h3
      simp only at h5; subst h5
      refine ⟨B', A, hB, ?_, HD_allow h1 i (Nat.le_refl _) hi B' A h4⟩
      rw [HD_congr (D' := fun j => decide (j < i)) ops.size (fun j hj hm => h2 j hj hm), HD_cut ops.size (by omega)]; exact h4
    · cases x with
      | tmp t => exact hslot t (by unfold readsOf; simp only [List.mem_append, List.mem_filterMap]; exact .inl ⟨.tmp t, by simpa using hx, rfl⟩) v hv
      | const c => cases hv; exact .lit
      | global g =>
        simp only [aeval, Option.map_eq_some_iff] at hv
        obtain ⟨cells, hl, rfl⟩ := hv
        exact (hinv.rel.glob g cells hl).1.weaken
      | func f => cases hv; exact .fn rfl (fun j v hj => by simp at hj)
    · have hA : (fun x => Apre A0 ops kf i x ∨ (kf i ≤ x ∧ x < out.k)) = Aop A0 ops kf i := funext fun x => by simp only [Aop, newN, hk]
      rw [hA] at hrel hv
      have hS : ∀ x A, ¬ A → (A → ¬ (kf i ≤ x ∧ x < out.k)) := fun x A h1 h2 => absurd h2 h1
      refine hK w' G' ρ' (a.put o.dst cv) ⟨?_, by rw [put_size]; exact hinv.size, by rw [put_defers]; exact hinv.defers, fun t v A hv' => ?_⟩ ?_
      · have : HD A0 ops kf (Hf 0) outf (fun j => if j = i then true else D j) ops.size = updO (HD A0 ops kf (Hf 0) outf D ops.size) (Aop A0 ops kf i) out.upd := funext fun id => by
          rw [HD_set (hmod1 id) hDi ops.size hi, updO_modOf]
          simp only [modAt, hout]
          all_goals (cases modOf out.upd id <;> rfl)
        rw [this]; exact hrel
      · rw [frD_set (hdn t) ops.size hi] at hv'
        rw [put_getD a o.dst cv t (fun x hx => by rw [hinv.size]; exact hdst x hx)]
        rw [hdsti] at hv'
        split at hv'
        · rename_i he; cases hv'; rw [if_pos he]; simp only [vals, hout]; exact hv
        · rename_i hne; rw [if_neg hne]
          exact (hinv.frm t v A hv').step hinv.rel hst (fun x hx hn => frD_old T hc hi hDi ((hnew x).1 hn) ops.size (Nat.le_refl _) v A hv' hx) (fun _ h => h)
      · exact ⟨hst.size, hst.keep, hst.shape, hst.g, hst.g', hst.own, fun x hx => hst.ids x (fun hn => by have h2 := kf_mono T i 0 (by omega) (by omega); simp only [below] at hx; omega), hst.os, hst.tape, hst.output⟩
end
end Go.AM
end
