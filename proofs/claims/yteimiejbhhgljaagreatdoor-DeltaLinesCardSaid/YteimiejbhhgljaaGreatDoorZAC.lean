import Derived.Test.YteimiejbhhgljaaGreatDoorZAB
set_option linter.unusedVariables false
set_option linter.unusedSimpArgs false
section
namespace Go.AM
inductive Bef (ops : Array Oper) : Nat → Nat → Prop
  | edge {i o e} : ops[i]? = some o → e ∈ o.after → Region.binds .any e = true → Bef ops e.on i
  | trans {a b c} : Bef ops a b → Bef ops b c → Bef ops a c
def befB (ops : Array Oper) : Nat → Nat → Nat → Bool
  | 0, _, _ => false
  | f + 1, j, i => match ops[i]? with
    | some o => o.after.toList.any fun e => Region.binds .any e && (e.on == j || befB ops f j e.on)
    | none => false
theorem befB_spec {ops : Array Oper} : ∀ (f j i : Nat), befB ops f j i = true → Bef ops j i := by
  intro f
  induction f with
  | zero => intro j i h; cases h
  | succ f ih =>
    intro j i h
    simp only [befB] at h
    split at h
    · rename_i o ho
      obtain ⟨e, he', hb⟩ := List.any_eq_true.1 h
      have he : e ∈ o.after := by simpa using he'
      simp only [Bool.and_eq_true, Bool.or_eq_true, beq_iff_eq] at hb
      obtain ⟨h1, h2⟩ := hb
      rcases h2 with rfl | h2
      · exact .edge ho he h1
      · exact .trans (ih j e.on h2) (.edge ho he h1)
    · cases h
def readsOf (ops : Array Oper) (o : Oper) : List Nat :=
  (o.op.operands.toList.filterMap fun | .tmp t => some t | _ => none) ++ (match o.guard with | some (j, _) => ((ops[j]?).bind (·.dst)).toList | none => [])
def meets (a b : List Nat) : Bool := a.any fun x => b.contains x
def dstL (o : Oper) : List Nat := o.dst.toList
def clash (ops : Array Oper) (oj : Oper) (fj : Foot) (oi : Oper) (fi : Foot) : Bool :=
  meets (dstL oj) (readsOf ops oi) || meets (dstL oj) (dstL oi) || meets (dstL oi) (readsOf ops oj) || meets fj.mods fi.rds || meets fj.mods fi.mods || meets fj.rds fi.mods
def drawOk (ops : Array Oper) (tr : List Foot) : Bool :=
  (List.range ops.size).all fun i => match ops[i]?, tr[i]? with
    | some oi, some fi => (oi.after.toList.all fun e => !Region.binds .any e || decide (e.on < i)) && (fi.mods.all fun x => decide (x < fi.k')) &&
        (List.range i).all fun j => match ops[j]?, tr[j]? with
          | some oj, some fj => !clash ops oj fj oi fi || befB ops ops.size j i
          | _, _ => false
    | _, _ => false
theorem meets_no {a b : List Nat} (h : meets a b = false) {x : Nat} (h1 : x ∈ a) (h2 : x ∈ b) : False := by
  unfold meets at h
  have := List.any_eq_false.1 h x h1
  simp at this
  exact this h2
section
variable {P : Program} {Γ : List (Nat × List AVal)} {nt kb : Nat} {Q : AQ} {k : Nat} {fr : Fr} {H : Heap}
def TStep (P : Program) (Γ : List (Nat × List AVal)) (ops : Array Oper) (o : Oper) (k : Nat) (fr : Fr) (H : Heap) (out : Option Out) (k' : Nat) (fr' : Fr) (H' : Heap) : Prop :=
  match out with
  | none => guardOf ops fr o = some false ∧ k' = k ∧ fr' = putO fr o.dst (.lit undef) ∧ H' = H
  | some out => guardOf ops fr o = some true ∧ Good P Γ o (aeval Γ fr) (look H) k out ∧ k' = out.k ∧ fr' = putO fr o.dst out.v ∧ H' = updH H out.upd
def footOf (k k' : Nat) : Option Out → Foot
  | none => ⟨[], [], k, k'⟩
  | some out => ⟨out.rds, out.upd.map (·.1), k, k'⟩
theorem run_text {ops : Array Oper} : ∀ (l : List Oper) (k : Nat) (fr : Fr) (H : Heap) (K : List Foot → Nat → Fr → Heap → Prop), Run P Γ ops l k fr H K →
    ∃ (kf : Nat → Nat) (frf : Nat → Fr) (Hf : Nat → Heap) (outf : Nat → Option Out), kf 0 = k ∧ frf 0 = fr ∧ Hf 0 = H ∧
      (∀ j o, l[j]? = some o → TStep P Γ ops o (kf j) (frf j) (Hf j) (outf j) (kf (j + 1)) (frf (j + 1)) (Hf (j + 1))) ∧
      ∃ tr : List Foot, tr.length = l.length ∧ (∀ j, j < l.length → tr[j]? = some (footOf (kf j) (kf (j + 1)) (outf j))) ∧ K tr (kf l.length) (frf l.length) (Hf l.length) := by
  intro l
  induction l with
  | nil => intro k fr H K h; exact ⟨fun _ => k, fun _ => fr, fun _ => H, fun _ => none, rfl, rfl, rfl, fun j o hj => by simp at hj, [], rfl, fun j hj => by simp at hj, h⟩
  | cons o r ih =>
    intro k fr H K h
    rcases h with ⟨hg, h⟩ | ⟨hg, out, hgood, h⟩
    · obtain ⟨kf, frf, Hf, outf, h1, h2, h3, h4, tr, h5, h6, h7⟩ := ih _ _ _ _ h
      refine ⟨fun j => match j with | 0 => k | j + 1 => kf j, fun j => match j with | 0 => fr | j + 1 => frf j, fun j => match j with | 0 => H | j + 1 => Hf j, fun j => match j with | 0 => none | j + 1 => outf j, rfl, rfl, rfl, fun j o' hj => ?_, ⟨[], [], k, k⟩ :: tr, by simp [h5], fun j hj => ?_, h7⟩
      · cases j with
        | zero => cases hj; exact ⟨hg, h1, h2, h3⟩
        | succ j => exact h4 j o' (by simpa using hj)
      · cases j with
        | zero => simp [footOf, h1]
        | succ j => exact h6 j (by simpa using hj)
    · obtain ⟨kf, frf, Hf, outf, h1, h2, h3, h4, tr, h5, h6, h7⟩ := ih _ _ _ _ h
      refine ⟨fun j => match j with | 0 => k | j + 1 => kf j, fun j => match j with | 0 => fr | j + 1 => frf j, fun j => match j with | 0 => H | j + 1 => Hf j, fun j => match j with | 0 => some out | j + 1 => outf j, rfl, rfl, rfl, fun j o' hj => ?_, ⟨out.rds, out.upd.map (·.1), k, out.k⟩ :: tr, by simp [h5], fun j hj => ?_, h7⟩
      · cases j with
        | zero => cases hj; exact ⟨hg, hgood, h1, h2, h3⟩
        | succ j => exact h4 j o' (by simpa using hj)
      · cases j with
        | zero => simp [footOf, h1]
        | succ j => exact h6 j (by simpa using hj)
structure Text (A0 : Allow) (P : Program) (Γ : List (Nat × List AVal)) (ops : Array Oper) (kf : Nat → Nat) (frf : Nat → Fr) (Hf : Nat → Heap) (outf : Nat → Option Out) : Prop where
  init : ∀ x, A0 x → x < kf 0
  step : ∀ j o, ops[j]? = some o → TStep P Γ ops o (kf j) (frf j) (Hf j) (outf j) (kf (j + 1)) (frf (j + 1)) (Hf (j + 1))
  low : ∀ i o e, ops[i]? = some o → e ∈ o.after → Region.binds .any e = true → e.on < i
  mods : ∀ i o out x, ops[i]? = some o → outf i = some out → x ∈ out.upd.map (·.1) → x < kf (i + 1)
  apart : ∀ i j oi oj, j < i → ops[i]? = some oi → ops[j]? = some oj → clash ops oj (footOf (kf j) (kf (j + 1)) (outf j)) oi (footOf (kf i) (kf (i + 1)) (outf i)) = true → Bef ops j i
variable {A0 : Allow} {ops : Array Oper} {kf : Nat → Nat} {frf : Nat → Fr} {Hf : Nat → Heap} {outf : Nat → Option Out}
def vals (outf : Nat → Option Out) (j : Nat) : AVal := match outf j with | some out => out.v | none => .lit undef
def newN (kf : Nat → Nat) (j x : Nat) : Prop := kf j ≤ x ∧ x < kf (j + 1)
def Apre (A0 : Allow) (ops : Array Oper) (kf : Nat → Nat) (i : Nat) : Allow := fun x => A0 x ∨ ∃ j, j < ops.size ∧ Bef ops j i ∧ newN kf j x
def Aop (A0 : Allow) (ops : Array Oper) (kf : Nat → Nat) (i : Nat) : Allow := fun x => Apre A0 ops kf i x ∨ newN kf i x
def dstAt (ops : Array Oper) (j : Nat) : Option Nat := (ops[j]?).bind (·.dst)
def modAt (outf : Nat → Option Out) (j id : Nat) : Option (Option Blk) := match outf j with | some out => modOf out.upd id | none => none
def frD (A0 : Allow) (ops : Array Oper) (kf : Nat → Nat) (fr0 : Fr) (outf : Nat → Option Out) (D : Nat → Bool) : Nat → Nat → Option (AVal × Allow)
  | 0, t => (look fr0 t).map fun v => (v, A0)
  | m + 1, t => if D m = true ∧ dstAt ops m = some t then some (vals outf m, Aop A0 ops kf m) else frD A0 ops kf fr0 outf D m t
def HD (A0 : Allow) (ops : Array Oper) (kf : Nat → Nat) (H0 : Heap) (outf : Nat → Option Out) (D : Nat → Bool) : Nat → Owner
  | 0, id => ofHeap H0 A0 id
  | m + 1, id => if D m = true then (match modAt outf m id with | some x => x.map fun B => (B, Aop A0 ops kf m) | none => HD A0 ops kf H0 outf D m id) else HD A0 ops kf H0 outf D m id
theorem frD_congr {fr0 : Fr} {D D' : Nat → Bool} {t : Nat} : ∀ (m : Nat), (∀ j, j < m → dstAt ops j = some t → D j = D' j) → frD A0 ops kf fr0 outf D m t = frD A0 ops kf fr0 outf D' m t := by
  intro m
  induction m with
  | zero => intro _; rfl
  | succ m ih =>
    intro h
    simp only [frD]
    rw [ih (fun j hj => h j (by omega))]
    by_cases hd : dstAt ops m = some t
    · rw [h m (by omega) hd]
    · rw [if_neg (fun c => hd c.2), if_neg (fun c => hd c.2)]
theorem HD_congr {H0 : Heap} {D D' : Nat → Bool} {id : Nat} : ∀ (m : Nat), (∀ j, j < m → (modAt outf j id).isSome = true → D j = D' j) → HD A0 ops kf H0 outf D m id = HD A0 ops kf H0 outf D' m id := by
  intro m
  induction m with
  | zero => intro _; rfl
  | succ m ih =>
    intro h
    simp only [HD]
    rw [ih (fun j hj => h j (by omega))]
    cases hm : modAt outf m id with
    | none => simp
    | some x => rw [h m (by omega) (by rw [hm]; rfl)]
theorem frD_cut {fr0 : Fr} {t i : Nat} : ∀ (m : Nat), i ≤ m → frD A0 ops kf fr0 outf (fun j => decide (j < i)) m t = frD A0 ops kf fr0 outf (fun _ => true) i t := by
  intro m
  induction m with
  | zero => intro h; have : i = 0 := by omega
            subst this; rfl
  | succ m ih =>
    intro h
    by_cases he : i = m + 1
    · subst he; exact frD_congr _ (fun j hj _ => by simp; omega)
    · simp only [frD]
      rw [if_neg (by simp; omega)]
      exact ih (by omega)
theorem HD_cut {H0 : Heap} {id i : Nat} : ∀ (m : Nat), i ≤ m → HD A0 ops kf H0 outf (fun j => decide (j < i)) m id = HD A0 ops kf H0 outf (fun _ => true) i id := by
  intro m
  induction m with
  | zero => intro h; have : i = 0 := by omega
            subst this; rfl
  | succ m ih =>
    intro h
    by_cases he : i = m + 1
    · subst he; exact HD_congr _ (fun j hj _ => by simp; omega)
    · simp only [HD]
      rw [if_neg (by simp; omega)]
      exact ih (by omega)
theorem frD_text (T : Text A0 P Γ ops kf frf Hf outf) {t : Nat} : ∀ (i : Nat), i ≤ ops.size → (frD A0 ops kf (frf 0) outf (fun _ => true) i t).map (·.1) = look (frf i) t := by
  intro i
  induction i with
  | zero => intro _; simp only [frD]; cases look (frf 0) t <;> rfl
  | succ i ih =>
    intro hi
    have ho : ops[i]? = some ops[i] := Array.getElem?_eq_getElem (by omega)
    have hs := T.step i _ ho
    simp only [frD, true_and]
    have hd : dstAt ops i = (ops[i]).dst := by simp [dstAt, ho]
    unfold TStep at hs
    cases hout : outf i with
    | none =>
      rw [hout] at hs
      rw [hs.2.2.1, look_putO, hd]
      split
      · simp [vals, hout]
      · exact ih (by omega)
    | some out =>
      rw [hout] at hs
      rw [hs.2.2.2.1, look_putO, hd]
      split
      · simp [vals, hout]
      · exact ih (by omega)
theorem HD_text (T : Text A0 P Γ ops kf frf Hf outf) {id : Nat} : ∀ (i : Nat), i ≤ ops.size → (HD A0 ops kf (Hf 0) outf (fun _ => true) i id).map (·.1) = look (Hf i) id := by
  intro i
  induction i with
  | zero => intro _; simp only [HD, ofHeap]; cases look (Hf 0) id <;> rfl
  | succ i ih =>
    intro hi
    have ho : ops[i]? = some ops[i] := Array.getElem?_eq_getElem (by omega)
    have hs := T.step i _ ho
    simp only [HD, if_true]
    unfold TStep at hs
    cases hout : outf i with
    | none =>
      rw [hout] at hs
      rw [hs.2.2.2]
      simp only [modAt, hout]
      exact ih (by omega)
    | some out =>
      rw [hout] at hs
      rw [hs.2.2.2.2, look_updH]
      simp only [modAt, hout]
      cases hx : modOf out.upd id with
      | none => exact ih (by omega)
      | some x => cases x <;> rfl
theorem kf_mono (T : Text A0 P Γ ops kf frf Hf outf) : ∀ (j i : Nat), i ≤ j → j ≤ ops.size → kf i ≤ kf j := by
  intro j
  induction j with
  | zero => intro i h _; have : i = 0 := by omega
            subst this; exact Nat.le_refl _
  | succ j ih =>
    intro i h hj
    by_cases he : i = j + 1
    · subst he; exact Nat.le_refl _
    · have h1 := ih i (by omega) (by omega)
      have ho : ops[j]? = some ops[j] := Array.getElem?_eq_getElem (by omega)
      have hs := T.step j _ ho
      unfold TStep at hs
      cases hout : outf j with
      | none => rw [hout] at hs; rw [hs.2.1]; exact h1
      | some out => rw [hout] at hs; rw [hs.2.2.1]; exact Nat.le_trans h1 hs.2.1.le
theorem new_inj (T : Text A0 P Γ ops kf frf Hf outf) {i j x : Nat} (hi : i < ops.size) (hj : j < ops.size) (h1 : newN kf i x) (h2 : newN kf j x) : i = j := by
  rcases Nat.lt_trichotomy i j with h | h | h
  · have := kf_mono T j (i + 1) (by omega) (by omega); unfold newN at *; omega
  · exact h
  · have := kf_mono T i (j + 1) (by omega) (by omega); unfold newN at *; omega
theorem new_not_old (T : Text A0 P Γ ops kf frf Hf outf) {i x : Nat} (hi : i < ops.size) (h1 : newN kf i x) (h2 : A0 x) : False := by
  have h3 := T.init x h2
  have := kf_mono T i 0 (by omega) (by omega); unfold newN at *; omega
theorem Bef_lt (T : Text A0 P Γ ops kf frf Hf outf) {i j : Nat} (h : Bef ops j i) : j < i := by
  induction h with
  | edge ho he hb => exact T.low _ _ _ ho he hb
  | trans _ _ h1 h2 => omega
theorem frD_allow {fr0 : Fr} {t i : Nat} (hb : ∀ j, j < i → dstAt ops j = some t → Bef ops j i) : ∀ (m : Nat), m ≤ i → i < ops.size → ∀ v A, frD A0 ops kf fr0 outf (fun _ => true) m t = some (v, A) → ∀ x, A x → Apre A0 ops kf i x := by
  intro m
  induction m with
  | zero =>
    intro _ _ v A h x hx
    simp only [frD, Option.map_eq_some_iff] at h
    obtain ⟨u, _, he⟩ := h
    cases he
    exact .inl hx
  | succ m ih =>
    intro hm hi v A h x hx
    simp only [frD, true_and] at h
    split at h
    · rename_i hd
      cases h
      have hbm := hb m (by omega) hd
      rcases hx with (hx | ⟨j, hj, hbj, hn⟩) | hx
      · exact .inl hx
      · exact .inr ⟨j, hj, .trans hbj hbm, hn⟩
      · exact .inr ⟨m, by omega, hbm, hx⟩
    · exact ih (by omega) hi v A h x hx
theorem HD_allow {H0 : Heap} {id i : Nat} (hb : ∀ j, j < i → (modAt outf j id).isSome = true → Bef ops j i) : ∀ (m : Nat), m ≤ i → i < ops.size → ∀ B A, HD A0 ops kf H0 outf (fun _ => true) m id = some (B, A) → ∀ x, A x → Apre A0 ops kf i x := by
  intro m
  induction m with
  | zero =>
    intro _ _ v A h x hx
    simp only [HD, ofHeap, Option.map_eq_some_iff] at h
    obtain ⟨u, _, he⟩ := h
    cases he
    exact .inl hx
  | succ m ih =>
    intro hm hi v A h x hx
    simp only [HD, if_true] at h
    cases hmod : modAt outf m id with
    | none => rw [hmod] at h; exact ih (by omega) hi v A h x hx
    | some y =>
      rw [hmod] at h
      simp only [Option.map_eq_some_iff] at h
      obtain ⟨B', _, he⟩ := h
      cases he
      have hbm := hb m (by omega) (by rw [hmod]; rfl)
      rcases hx with (hx | ⟨j, hj, hbj, hn⟩) | hx
      · exact .inl hx
      · exact .inr ⟨j, hj, .trans hbj hbm, hn⟩
      · exact .inr ⟨m, by omega, hbm, hx⟩
theorem allow_old (T : Text A0 P Γ ops kf frf Hf outf) {D : Nat → Bool} (hD : ∀ j, D j = true → ∀ l, Bef ops l j → D l = true) {i : Nat} (hi : i < ops.size) (hDi : D i = false) {x : Nat} (hx : newN kf i x) {j : Nat} (hj : j < ops.size) (hDj : D j = true) : ¬ Aop A0 ops kf j x := by
  rintro ((h | ⟨l, hl, hb, hn⟩) | h)
  · exact new_not_old T hi hx h
  · have := new_inj T hi hl hx hn
    subst this
    rw [hD j hDj _ hb] at hDi; cases hDi
  · have := new_inj T hi hj hx h
    subst this
    rw [hDj] at hDi; cases hDi
theorem frD_old (T : Text A0 P Γ ops kf frf Hf outf) {fr0 : Fr} {D : Nat → Bool} (hD : ∀ j, D j = true → ∀ l, Bef ops l j → D l = true) {i : Nat} (hi : i < ops.size) (hDi : D i = false) {x : Nat} (hx : newN kf i x) {t : Nat} :
    ∀ (m : Nat), m ≤ ops.size → ∀ v A, frD A0 ops kf fr0 outf D m t = some (v, A) → ¬ A x := by
  intro m
  induction m with
  | zero =>
    intro _ v A h hA
    simp only [frD, Option.map_eq_some_iff] at h
    obtain ⟨u, _, he⟩ := h
    cases he
    exact new_not_old T hi hx hA
  | succ m ih =>
    intro hm v A h
    simp only [frD] at h
    split at h
    · rename_i hd; cases h; exact allow_old T hD hi hDi hx (by omega) hd.1
    · exact ih (by omega) v A h
theorem HD_old (T : Text A0 P Γ ops kf frf Hf outf) {H0 : Heap} {D : Nat → Bool} (hD : ∀ j, D j = true → ∀ l, Bef ops l j → D l = true) {i : Nat} (hi : i < ops.size) (hDi : D i = false) {x : Nat} (hx : newN kf i x) {id : Nat} :
    ∀ (m : Nat), m ≤ ops.size → ∀ B A, HD A0 ops kf H0 outf D m id = some (B, A) → ¬ A x := by
  intro m
  induction m with
  | zero =>
    intro _ v A h hA
    simp only [HD, ofHeap, Option.map_eq_some_iff] at h
    obtain ⟨u, _, he⟩ := h
    cases he
    exact new_not_old T hi hx hA
  | succ m ih =>
    intro hm v A h
    simp only [HD] at h
    split at h
    · rename_i hd
      cases hmod : modAt outf m id with
      | none => rw [hmod] at h; exact ih (by omega) v A h
      | some y =>
        rw [hmod] at h
        simp only [Option.map_eq_some_iff] at h
        obtain ⟨B', _, he⟩ := h
        cases he
        exact allow_old T hD hi hDi hx (by omega) hd
    · exact ih (by omega) v A h
theorem frD_set {fr0 : Fr} {D : Nat → Bool} {i t : Nat} (hn : dstAt ops i = some t → ∀ j, i < j → D j = true → dstAt ops j ≠ some t) : ∀ (m : Nat), i < m →
    frD A0 ops kf fr0 outf (fun j => if j = i then true else D j) m t = if dstAt ops i = some t then some (vals outf i, Aop A0 ops kf i) else frD A0 ops kf fr0 outf D m t := by
  intro m
  induction m with
  | zero => intro h; omega
  | succ m ih =>
    intro h
    by_cases he : m = i
    · subst he
      simp only [frD, if_true, true_and]
      by_cases hd : dstAt ops m = some t
      · rw [if_pos hd, if_pos hd]
      · rw [if_neg hd, if_neg hd, if_neg (fun c => hd c.2)]
        exact frD_congr _ (fun j hj _ => by rw [if_neg (by omega)])
    · simp only [frD, if_neg he]
      rw [ih (by omega)]
      by_cases hd : dstAt ops i = some t
      · rw [if_pos hd, if_pos hd]
        split
        · rename_i hc; exact absurd hc.2 (hn hd m (by omega) hc.1)
        · rfl
      · rw [if_neg hd, if_neg hd]
theorem HD_set {H0 : Heap} {D : Nat → Bool} {i id : Nat} (hn : (modAt outf i id).isSome = true → ∀ j, i < j → D j = true → modAt outf j id = none) (hDi : D i = false) : ∀ (m : Nat), i < m →
    HD A0 ops kf H0 outf (fun j => if j = i then true else D j) m id = match modAt outf i id with | some x => x.map fun B => (B, Aop A0 ops kf i) | none => HD A0 ops kf H0 outf D m id := by
  intro m
  induction m with
  | zero => intro h; omega
  | succ m ih =>
    intro h
    by_cases he : m = i
    · subst he
      simp only [HD, if_true]
      have hc : HD A0 ops kf H0 outf (fun j => if j = m then true else D j) m id = HD A0 ops kf H0 outf D m id := HD_congr _ (fun j hj _ => by rw [if_neg (by omega)])
      rw [hc, if_neg (by rw [hDi]; simp)]
    · simp only [HD, if_neg he]
      rw [ih (by omega)]
      cases hm : modAt outf i id with
      | none => rfl
      | some x =>
        simp only
        split
        · rename_i hDm
          rw [hn (by rw [hm]; rfl) m (by omega) hDm]
        · rfl
def closed (ops : Array Oper) (D : Nat → Bool) : Prop := ∀ j, D j = true → ∀ l, Bef ops l j → D l = true
theorem closed_of_edges {D : Nat → Bool} (h : ∀ i o e, D i = true → ops[i]? = some o → e ∈ o.after → Region.binds .any e = true → D e.on = true) : closed ops D := by
  intro j hj l hb
  induction hb with
  | edge ho he hb => exact h _ _ _ hj ho he hb
  | trans h1 h2 ih1 ih2 => exact ih1 (ih2 hj)
theorem ready_bef {D : Nat → Bool} (hc : closed ops D) {i : Nat} {o : Oper} (ho : ops[i]? = some o) (hr : ∀ e, e ∈ o.after → Region.binds .any e = true → D e.on = true) : ∀ {l}, Bef ops l i → D l = true := by
  intro l hb
  have key : ∀ {a b}, Bef ops a b → b = i → D a = true := by
    intro a b hb
    induction hb with
    | edge ho' he hb' => intro h; subst h; rw [ho] at ho'; cases ho'; exact hr _ he hb'
    | trans h1 h2 ih1 ih2 => intro h; exact hc _ (ih2 h) _ h1
  exact key hb rfl
structure DInv (A0 : Allow) (Γ : List (Nat × List AVal)) (nt : Nat) (ops : Array Oper) (kf : Nat → Nat) (fr0 : Fr) (H0 : Heap) (outf : Nat → Option Out) (D : Nat → Bool) (w : World) (G : Nat → Prop) (ρ : Names) (a : Act) : Prop where
  rel : HRel Γ w G ρ (HD A0 ops kf H0 outf D ops.size)
  size : a.tmps.size = nt
  defers : a.defers = []
  frm : ∀ t v A, frD A0 ops kf fr0 outf D ops.size t = some (v, A) → V w G ρ A v (a.tmps.getD t undef)
theorem foot_rds {i : Nat} {out : Out} (h : outf i = some out) : (footOf (kf i) (kf (i + 1)) (outf i)).rds = out.rds := by rw [h]; rfl
theorem foot_mods {i : Nat} {out : Out} (h : outf i = some out) : (footOf (kf i) (kf (i + 1)) (outf i)).mods = out.upd.map (·.1) := by rw [h]; rfl
theorem mod_mem : ∀ {upd : List (Nat × Option Blk)} {id : Nat}, (modOf upd id).isSome = true → id ∈ upd.map (·.1)
  | [], id, h => by simp [modOf, look] at h
  | (i, x) :: r, id, h => by
    simp only [modOf, look] at h
    split at h
    · rename_i he; simp [he]
    · simp only [List.map_cons, List.mem_cons]; exact .inr (mod_mem h)
theorem modAt_foot {j id : Nat} (h : (modAt outf j id).isSome = true) : id ∈ (footOf (kf j) (kf (j + 1)) (outf j)).mods := by
  unfold modAt at h
  cases hout : outf j with
  | none => rw [hout] at h; simp at h
  | some out => rw [hout] at h; exact mod_mem h
theorem dstL_mem {o : Oper} {t : Nat} (h : o.dst = some t) : t ∈ dstL o := by simp [dstL, h]
theorem clash_of_slot {oj oi : Oper} {fj fi : Foot} {t : Nat} (h1 : oj.dst = some t) (h2 : t ∈ readsOf ops oi) : clash ops oj fj oi fi = true := by
  cases hc : clash ops oj fj oi fi with
  | true => rfl
  | false => simp only [clash, Bool.or_eq_false_iff] at hc; exact (meets_no hc.1.1.1.1.1 (dstL_mem h1) h2).elim
theorem clash_of_slot' {oj oi : Oper} {fj fi : Foot} {t : Nat} (h1 : t ∈ readsOf ops oj) (h2 : oi.dst = some t) : clash ops oj fj oi fi = true := by
  cases hc : clash ops oj fj oi fi with
  | true => rfl
  | false => simp only [clash, Bool.or_eq_false_iff] at hc; exact (meets_no hc.1.1.1.2 (dstL_mem h2) h1).elim
theorem clash_of_dst {oj oi : Oper} {fj fi : Foot} {t : Nat} (h1 : oj.dst = some t) (h2 : oi.dst = some t) : clash ops oj fj oi fi = true := by
  cases hc : clash ops oj fj oi fi with
  | true => rfl
  | false => simp only [clash, Bool.or_eq_false_iff] at hc; exact (meets_no hc.1.1.1.1.2 (dstL_mem h1) (dstL_mem h2)).elim
theorem clash_of_mod {oj oi : Oper} {fj fi : Foot} {x : Nat} (h1 : x ∈ fj.mods) (h2 : x ∈ fi.rds ∨ x ∈ fi.mods) : clash ops oj fj oi fi = true := by
  cases hc : clash ops oj fj oi fi with
  | true => rfl
  | false =>
    simp only [clash, Bool.or_eq_false_iff] at hc
    rcases h2 with h2 | h2
    · exact (meets_no hc.1.1.2 h1 h2).elim
    · exact (meets_no hc.1.2 h1 h2).elim
theorem clash_of_mod' {oj oi : Oper} {fj fi : Foot} {x : Nat} (h1 : x ∈ fj.rds) (h2 : x ∈ fi.mods) : clash ops oj fj oi fi = true := by
  cases hc : clash ops oj fj oi fi with
  | true => rfl
  | false => simp only [clash, Bool.or_eq_false_iff] at hc; exact (meets_no hc.2 h1 h2).elim
theorem draw_step (T : Text A0 P Γ ops kf frf Hf outf) (hd : dstOk nt ops = true) {D : Nat → Bool} (hDs : ∀ j, D j = true → j < ops.size) (hc : closed ops D) {i : Nat} {o : Oper} (ho : ops[i]? = some o) (hDi : D i = false)
    (hr : ∀ e, e ∈ o.after → Region.binds .any e = true → D e.on = true) {w : World} {G : Nat → Prop} {ρ : Names} {a : Act} (hinv : DInv A0 Γ nt ops kf (frf 0) (Hf 0) outf D w G ρ a)
    {K : Act → World → Prop} {Q' : Exit → Act → World → Prop} (hK : ∀ w' G' ρ' a', DInv A0 Γ nt ops kf (frf 0) (Hf 0) outf (fun j => if j = i then true else D j) w' G' ρ' a' → Step (below (kf 0)) w G ρ w' G' ρ' → K a' w') : wpOp P ops Q' i K a w := by
  have hi : i < ops.size := by have := (Array.getElem?_eq_some_iff.1 ho).1; exact this
  have hpre : ∀ {l}, Bef ops l i → D l = true := ready_bef hc ho hr
  have hdsti : dstAt ops i = o.dst := by simp [dstAt, ho]
  have opAt : ∀ j t, dstAt ops j = some t → ∃ oj, ops[j]? = some oj ∧ oj.dst = some t := fun j t h => by
    obtain ⟨oj, h1, h2⟩ := Option.bind_eq_some_iff.1 h; exact ⟨oj, h1, h2⟩
  have hslotD : ∀ t, t ∈ readsOf ops o → (∀ j, j < i → dstAt ops j = some t → Bef ops j i) ∧ (∀ j, dstAt ops j = some t → D j = decide (j < i)) := fun t ht => by
    have h1 : ∀ j, j < i → dstAt ops j = some t → Bef ops j i := fun j hj hdj => by
      obtain ⟨oj, h2, h3⟩ := opAt j t hdj
      exact T.apart i j o oj hj ho h2 (clash_of_slot h3 ht)
    refine ⟨h1, fun j hdj => ?_⟩
    obtain ⟨oj, h2, h3⟩ := opAt j t hdj
    rcases Nat.lt_trichotomy j i with h | h | h
    · rw [hpre (h1 j h hdj)]; simp [h]
    · rw [h, hDi]; simp
    · have hb := T.apart j i oj o h h2 ho (clash_of_slot' ht h3)
      cases hDj : D j with
      | false => simp; omega
      | true => rw [hc j hDj _ hb] at hDi; cases hDi
  have hslot : ∀ t, t ∈ readsOf ops o → ∀ v, look (frf i) t = some v → V w G ρ (Apre A0 ops kf i) v (a.tmps.getD t undef) := fun t ht v hv => by
    obtain ⟨h1, h2⟩ := hslotD t ht
    have h3 := frD_text T (t := t) i (by omega)
    rw [hv] at h3
    simp only [Option.map_eq_some_iff] at h3
    obtain ⟨⟨v', A⟩, h4, h5⟩ := h3
    simp only at h5; subst h5
    have h6 : frD A0 ops kf (frf 0) outf D ops.size t = some (v', A) := by
      rw [frD_congr (D' := fun j => decide (j < i)) ops.size (fun j _ hdj => h2 j hdj), frD_cut ops.size (by omega)]; exact h4
    exact (hinv.frm t v' A h6).mono (fun _ h => h) (fun _ _ => rfl) (fun _ _ => rfl) (frD_allow h1 i (Nat.le_refl _) hi v' A h4) (fun _ _ => .inr rfl)
  have hguard : ∀ b, guardOf ops (frf i) o = some b → Region.wanted o (yielded ops a.tmps) = b := fun b hb =>
    guard_wanted hd hinv.size (fun j want hg t ht c hcl => by
      have := hslot t (by unfold readsOf; rw [hg]; simp [ht]) _ hcl
      exact V_bool this) hb
  have hs := T.step i o ho
  unfold TStep at hs
  have hdst := dstOk_spec hd ho
  have hdn : ∀ t, dstAt ops i = some t → ∀ j, i < j → D j = true → dstAt ops j ≠ some t := fun t ht j hj hDj hdj => by
    obtain ⟨oj, h2, h3⟩ := opAt j t hdj
    rw [hdsti] at ht
    have hb := T.apart j i oj o hj h2 ho (clash_of_dst ht h3)
    rw [hc j hDj _ hb] at hDi; cases hDi
  unfold wpOp
  rw [ho]
  cases hout : outf i with
  | none =>
    rw [hout] at hs
    obtain ⟨hg, hk, hfr, hH⟩ := hs
    simp only [hguard _ hg, Bool.false_eq_true, if_false]
    refine hK w G ρ (a.put o.dst undef) ⟨?_, by rw [put_size]; exact hinv.size, by rw [put_defers]; exact hinv.defers, fun t v A hv => ?_⟩ (Step.refl _ _ _ _)
    · have : HD A0 ops kf (Hf 0) outf (fun j => if j = i then true else D j) ops.size = HD A0 ops kf (Hf 0) outf D ops.size := funext fun id => by
        rw [HD_set (fun h => by simp [modAt, hout] at h) hDi ops.size hi]
        simp [modAt, hout]
      rw [this]; exact hinv.rel
    · rw [frD_set (hdn t) ops.size hi] at hv
      rw [put_getD a o.dst undef t (fun x hx => by rw [hinv.size]; exact hdst x hx)]
      rw [hdsti] at hv
      split at hv
      · rename_i he; cases hv; rw [if_pos he]; simp only [vals, hout]; exact .lit
      · rename_i hne; rw [if_neg hne]; exact hinv.frm t v A hv
  | some out =>
    rw [hout] at hs
    obtain ⟨hg, hgood, hk, hfr, hH⟩ := hs
    simp only [hguard _ hg, if_true]
    left
    have hnew : ∀ x, (kf i ≤ x ∧ x < out.k) ↔ newN kf i x := fun x => by unfold newN; rw [hk]
    have hmod1 : ∀ id, (modAt outf i id).isSome = true → ∀ j, i < j → D j = true → modAt outf j id = none := fun id h j hj hDj => by
      cases hm : modAt outf j id with
      | none => rfl
      | some x =>
        have hj' := hDs j hDj
        have hb := T.apart j i _ o hj (Array.getElem?_eq_getElem hj') ho (clash_of_mod (modAt_foot h) (.inr (modAt_foot (by rw [hm]; rfl))))
        rw [hc j hDj _ hb] at hDi; cases hDi
    refine hgood.ok w G ρ (HD A0 ops kf (Hf 0) outf D ops.size) (Apre A0 ops kf i) a hinv.rel (fun x hx => ?_) (fun x h1 h2 => ?_) (fun id hid => ?_) (fun x hx v hv => ?_) K Q' (fun w' G' ρ' cv hrel hv hst => ?_)
    ·
      rcases hx with hx | ⟨j, hj, hb, hnj⟩
      · have h1 := T.init x hx
        have h2 := kf_mono T i 0 (by omega) (by omega)
        omega
      · have h1 := Bef_lt T hb
        have h2 := kf_mono T i (j + 1) (by omega) (by omega)
        unfold newN at hnj
        omega
    · have hn := (hnew x).1 ⟨h1, h2⟩
      have hold : ∀ id B A, HD A0 ops kf (Hf 0) outf D ops.size id = some (B, A) → ¬ A x := fun id B A h => HD_old T hc hi hDi hn ops.size (Nat.le_refl _) B A h
      refine ⟨?_, hold⟩
      cases hH : HD A0 ops kf (Hf 0) outf D ops.size x with
      | none => exact hinv.rel.dom x hH
      | some y =>
        obtain ⟨B, A⟩ := y
        exact absurd (hinv.rel.blk x B A hH).1 (hold x B A hH)
    ·
      obtain ⟨B, hB⟩ := Option.isSome_iff_exists.1 (hgood.rds id hid)
      have h1 : ∀ j, j < i → (modAt outf j id).isSome = true → Bef ops j i := fun j hj hm =>
        T.apart i j o _ hj ho (Array.getElem?_eq_getElem (by omega)) (clash_of_mod (modAt_foot hm) (.inl (by rw [foot_rds hout]; exact hid)))
      have h2 : ∀ j, j < ops.size → (modAt outf j id).isSome = true → D j = decide (j < i) := fun j hj hm => by
        rcases Nat.lt_trichotomy j i with h | h | h
        · rw [hpre (h1 j h hm)]; simp [h]
        · rw [h, hDi]; simp
        · have hb := T.apart j i _ o h (Array.getElem?_eq_getElem hj) ho (clash_of_mod' (by rw [foot_rds hout]; exact hid) (modAt_foot hm))
          cases hDj : D j with
          | false => simp; omega
          | true => rw [hc j hDj _ hb] at hDi; cases hDi
      have h3 := HD_text T (id := id) i (by omega)
      rw [hB] at h3
      simp only [Option.map_eq_some_iff] at h3
      obtain ⟨⟨B', A⟩, h4, h5⟩ := h3
      simp only at h5; subst h5
      refine ⟨B', A, hB, ?_, HD_allow h1 i (Nat.le_refl _) hi B' A h4⟩
      rw [HD_congr (D' := fun j => decide (j < i)) ops.size (fun j hj hm => h2 j hj hm), HD_cut ops.size (by omega)]; exact h4
    · cases x with
      | tmp t => exact hslot t (by unfold readsOf; simp only [List.mem_append, List.mem_filterMap]; exact .inl ⟨.tmp t, by simpa using hx, rfl⟩) v hv
      | const c => cases hv; exact .lit
      | global g =>
        simp only [aeval, Option.map_eq_some_iff] at hv
        obtain ⟨cells, hl, rfl⟩ := hv
        exact (hinv.rel.glob g cells hl).1.weaken
      | func f => cases hv; exact .fn rfl (fun j v hj => by simp at hj)
    · have hA : (fun x => Apre A0 ops kf i x ∨ (kf i ≤ x ∧ x < out.k)) = Aop A0 ops kf i := funext fun x => by simp only [Aop, newN, hk]
      rw [hA] at hrel hv
      have hS : ∀ x A, ¬ A → (A → ¬ (kf i ≤ x ∧ x < out.k)) := fun x A h1 h2 => absurd h2 h1
      refine hK w' G' ρ' (a.put o.dst cv) ⟨?_, by rw [put_size]; exact hinv.size, by rw [put_defers]; exact hinv.defers, fun t v A hv' => ?_⟩ ?_
      · have : HD A0 ops kf (Hf 0) outf (fun j => if j = i then true else D j) ops.size = updO (HD A0 ops kf (Hf 0) outf D ops.size) (Aop A0 ops kf i) out.upd := funext fun id => by
          rw [HD_set (hmod1 id) hDi ops.size hi, updO_modOf]
          simp only [modAt, hout]
          all_goals (cases modOf out.upd id <;> rfl)
        rw [this]; exact hrel
      · rw [frD_set (hdn t) ops.size hi] at hv'
        rw [put_getD a o.dst cv t (fun x hx => by rw [hinv.size]; exact hdst x hx)]
        rw [hdsti] at hv'
        split at hv'
        · rename_i he; cases hv'; rw [if_pos he]; simp only [vals, hout]; exact hv
        · rename_i hne; rw [if_neg hne]
          exact (hinv.frm t v A hv').step hinv.rel hst (fun x hx hn => frD_old T hc hi hDi ((hnew x).1 hn) ops.size (Nat.le_refl _) v A hv' hx) (fun _ h => h)
      · exact ⟨hst.size, hst.keep, hst.shape, hst.g, hst.g', hst.own, fun x hx => hst.ids x (fun hn => by have h2 := kf_mono T i 0 (by omega) (by omega); simp only [below] at hx; omega), hst.os, hst.tape, hst.output⟩
end
end Go.AM
end
section
namespace Go.AM
section
variable {P : Program} {Γ : List (Nat × List AVal)} {nt kb : Nat} {Q : AQ} {k : Nat} {fr : Fr} {H : Heap}
variable {A0 : Allow} {ops : Array Oper} {kf : Nat → Nat} {frf : Nat → Fr} {Hf : Nat → Heap} {outf : Nat → Option Out}
theorem count_lt {p p' : Nat → Bool} : ∀ (l : List Nat) (x : Nat), (∀ y, p' y = true → p y = true) → x ∈ l → p x = true → p' x = false → l.countP p' < l.countP p
  | [], x, _, h, _, _ => by simp at h
  | y :: r, x, hp, h, h1, h2 => by
    have hle : r.countP p' ≤ r.countP p := List.countP_mono_left (fun z _ hz => hp z hz)
    rw [List.countP_cons, List.countP_cons]
    rcases List.mem_cons.1 h with rfl | h
    · rw [h1, h2]; simp; omega
    · have ih := count_lt r x hp h h1 h2
      cases hy : p' y with
      | true => rw [hp y hy]; simp; exact ih
      | false => simp; omega
def unlisted (ops : Array Oper) (listed : Array Bool) : Nat := (List.range ops.size).countP fun j => !listed.getD j false
theorem draw_any (T : Text A0 P Γ ops kf frf Hf outf) (hd : dstOk nt ops = true) {w0 : World} {G0 : Nat → Prop} {ρ0 : Names} {Q' : Exit → Act → World → Prop}
    (hQ : ∀ w G ρ a, DInv A0 Γ nt ops kf (frf 0) (Hf 0) outf (fun j => decide (j < ops.size)) w G ρ a → Step (below (kf 0)) w0 G0 ρ0 w G ρ → Q' .normal a w) :
    ∀ (fuel : Nat) (listed : Array Bool) (w : World) (G : Nat → Prop) (ρ : Names) (a : Act), listed.size = ops.size → unlisted ops listed ≤ fuel →
      (∀ i o e, listed.getD i false = true → ops[i]? = some o → e ∈ o.after → Region.binds .any e = true → listed.getD e.on false = true) →
      DInv A0 Γ nt ops kf (frf 0) (Hf 0) outf (fun j => listed.getD j false) w G ρ a → Step (below (kf 0)) w0 G0 ρ0 w G ρ → wpAny P .any ops Q' fuel listed a w := by
  have hall : ∀ (listed : Array Bool), listed.size = ops.size → Region.ready .any ops listed = [] → ∀ j, j < ops.size → listed.getD j false = true := by
    intro listed hsz hr j
    induction j using Nat.strongRecOn with
    | _ j ih =>
      intro hj
      cases hl : listed.getD j false with
      | true => rfl
      | false =>
        have hmem : j ∈ Region.ready .any ops listed := by
          unfold Region.ready
          rw [List.mem_filter]
          refine ⟨List.mem_range.2 hj, ?_⟩
          have ho : ops[j]? = some ops[j] := Array.getElem?_eq_getElem hj
          have h1 : listed.getD j true = false := by
            rw [Array.getD_eq_getD_getElem?, Array.getElem?_eq_getElem (by omega)] at hl ⊢
            simpa using hl
          rw [h1, ho]
          simp only [Option.map_some, Option.getD_some, Bool.not_false, Bool.true_and]
          rw [Array.all_eq_true']
          intro e he
          by_cases hb : Region.binds .any e = true
          · have hlt := T.low j _ e ho he hb
            rw [ih e.on hlt (by omega)]; simp
          · simp [hb]
        rw [hr] at hmem; simp at hmem
  have hend : ∀ (listed : Array Bool) w G ρ a, listed.size = ops.size → DInv A0 Γ nt ops kf (frf 0) (Hf 0) outf (fun j => listed.getD j false) w G ρ a → Step (below (kf 0)) w0 G0 ρ0 w G ρ →
      Region.ready .any ops listed = [] → Q' .normal a w := by
    intro listed w G ρ a hsz hinv hst hr
    have hl := hall listed hsz hr
    have he : (fun j => listed.getD j false) = fun j => decide (j < ops.size) := funext fun j => by
      by_cases hj : j < ops.size
      · rw [hl j hj]; simp [hj]
      · rw [Array.getD_eq_getD_getElem?, Array.getElem?_eq_none (by omega)]; simp; omega
    rw [he] at hinv
    exact hQ w G ρ a hinv hst
  intro fuel
  induction fuel with
  | zero =>
    intro listed w G ρ a hsz hcnt hed hinv hst
    have hr : Region.ready .any ops listed = [] := by
      rw [List.eq_nil_iff_forall_not_mem]
      intro i hi
      unfold Region.ready at hi
      rw [List.mem_filter] at hi
      obtain ⟨h1, h2⟩ := hi
      simp only [Bool.and_eq_true, Bool.not_eq_true'] at h2
      have hlt := List.mem_range.1 h1
      have h3 : listed.getD i false = false := by
        have h4 := h2.1
        rw [Array.getD_eq_getD_getElem?, Array.getElem?_eq_getElem (by omega)] at h4 ⊢
        simpa using h4
      have h5 : 0 < unlisted ops listed := by
        unfold unlisted
        rw [List.countP_pos_iff]
        exact ⟨i, h1, by rw [h3]; rfl⟩
      omega
    exact ⟨hr, hend listed w G ρ a hsz hinv hst hr⟩
  | succ fuel ih =>
    intro listed w G ρ a hsz hcnt hed hinv hst
    refine ⟨hend listed w G ρ a hsz hinv hst, fun i hi => ?_⟩
    unfold Region.ready at hi
    rw [List.mem_filter] at hi
    obtain ⟨h1, h2⟩ := hi
    have hlt := List.mem_range.1 h1
    have ho : ops[i]? = some ops[i] := Array.getElem?_eq_getElem hlt
    rw [ho] at h2
    simp only [Option.map_some, Option.getD_some, Bool.and_eq_true, Bool.not_eq_true'] at h2
    have h3 : listed.getD i false = false := by
      have h4 := h2.1
      rw [Array.getD_eq_getD_getElem?, Array.getElem?_eq_getElem (by omega)] at h4 ⊢
      simpa using h4
    have hrdy : ∀ e, e ∈ (ops[i]).after → Region.binds .any e = true → listed.getD e.on false = true := fun e he hb => by
      have := Array.all_eq_true'.1 h2.2 e he
      simpa [hb] using this
    have hset : (fun j => (listed.setIfInBounds i true).getD j false) = fun j => if j = i then true else listed.getD j false := funext fun j => by
      by_cases hj : j = i
      · subst hj
        rw [if_pos rfl, Array.getD_eq_getD_getElem?, Array.getElem?_setIfInBounds_self_of_lt (by omega)]; rfl
      · rw [if_neg hj, Array.getD_eq_getD_getElem?, Array.getElem?_setIfInBounds_ne (fun e => hj e.symm), ← Array.getD_eq_getD_getElem?]
    refine draw_step T hd (D := fun j => listed.getD j false) (fun j hj => ?_) (closed_of_edges hed) ho h3 hrdy hinv (fun w' G' ρ' a' hinv' hst' => ?_)
    · by_cases hjl : j < ops.size
      · exact hjl
      · rw [Array.getD_eq_getD_getElem?, Array.getElem?_eq_none (by omega)] at hj; simp at hj
    · refine ih (listed.setIfInBounds i true) w' G' ρ' a' (by simp [hsz]) ?_ ?_ (by rw [hset]; exact hinv') (hst.trans hst' (fun _ h => h))
      · have hlt' : unlisted ops (listed.setIfInBounds i true) < unlisted ops listed := by
          unfold unlisted
          refine count_lt (List.range ops.size) i (fun y hy => ?_) h1 (by rw [h3]; rfl) (by rw [congrFun hset i]; simp)
          have := congrFun hset y
          rw [this] at hy
          by_cases hyi : y = i
          · rw [if_pos hyi] at hy; simp at hy
          · rw [if_neg hyi] at hy; exact hy
        omega
      · intro j oj e hj hoj he hb
        have e1 := congrFun hset j
        have e2 := congrFun hset e.on
        rw [e2]
        rw [e1] at hj
        by_cases hji : j = i
        · subst hji
          rw [ho] at hoj; cases hoj
          by_cases hei : e.on = j
          · rw [if_pos hei]
          · rw [if_neg hei]; exact hrdy e he hb
        · rw [if_neg hji] at hj
          by_cases hei : e.on = i
          · rw [if_pos hei]
          · rw [if_neg hei]; exact hed j oj e hj hoj he hb
theorem W_draw {id : Nat} (hm : P.follows .mixedOrders = true) (hd : dstOk nt ops = true) (h : Run P Γ ops ops.toList k fr H (fun tr k' fr' H' => drawOk ops tr = true ∧ (kb ≤ k' → Q .normal k' fr' H'))) :
    W P Γ nt kb (.region id ops true) Q k fr H := fun C0 hC0 hk w G ρ a hi => by
  obtain ⟨A0, hA0e⟩ : ∃ A0, A0 = alw C0 kb k := ⟨_, rfl⟩
  have hlt0 := alw_lt (A0 := C0) hC0 hk
  obtain ⟨kf, frf, Hf, outf, h1, h2, h3, h4, tr, h5, h6, h7, h8⟩ := run_text (P := P) (Γ := Γ) (ops := ops) ops.toList k fr H _ h
  rw [Array.length_toList] at h5 h8
  have hstep : ∀ j o, ops[j]? = some o → TStep P Γ ops o (kf j) (frf j) (Hf j) (outf j) (kf (j + 1)) (frf (j + 1)) (Hf (j + 1)) := fun j o hj => h4 j o (by rw [Array.getElem?_toList]; exact hj)
  have hfoot : ∀ j, j < ops.size → tr[j]? = some (footOf (kf j) (kf (j + 1)) (outf j)) := fun j hj => h6 j (by simpa using hj)
  have hrow : ∀ i oi, ops[i]? = some oi → (oi.after.toList.all fun e => !Region.binds .any e || decide (e.on < i)) = true ∧ ((footOf (kf i) (kf (i + 1)) (outf i)).mods.all fun x => decide (x < kf (i + 1))) = true ∧
      ∀ j oj, j < i → ops[j]? = some oj → clash ops oj (footOf (kf j) (kf (j + 1)) (outf j)) oi (footOf (kf i) (kf (i + 1)) (outf i)) = true → befB ops ops.size j i = true := fun i oi hoi => by
    have hlt := (Array.getElem?_eq_some_iff.1 hoi).1
    have := List.all_eq_true.1 h7 i (List.mem_range.2 hlt)
    rw [hoi, hfoot i hlt] at this
    simp only [Bool.and_eq_true] at this
    obtain ⟨⟨t1, t2⟩, t3⟩ := this
    refine ⟨t1, ?_, fun j oj hj hoj hcl => ?_⟩
    · cases hout : outf i with
      | none => simp [footOf]
      | some out => rw [hout] at t2; exact t2
    · have t4 := List.all_eq_true.1 t3 j (List.mem_range.2 hj)
      rw [hoj, hfoot j (by omega)] at t4
      simp only [Bool.or_eq_true, Bool.not_eq_true'] at t4
      rcases t4 with t4 | t4
      · rw [hcl] at t4; cases t4
      · exact t4
  have T : Text A0 P Γ ops kf frf Hf outf := {
    init := fun x hx => by rw [hA0e] at hx; rw [h1]; exact hlt0 x hx
    step := hstep
    low := fun i o e ho he hb => by
      have := List.all_eq_true.1 (hrow i o ho).1 e (by simpa using he)
      simpa [hb] using this
    mods := fun i o out x ho hout hx => by
      have := List.all_eq_true.1 (hrow i o ho).2.1 x (by rw [foot_mods hout]; exact hx)
      simpa using this
    apart := fun i j oi oj hj hoi hoj hcl => befB_spec _ _ _ ((hrow i oi hoi).2.2 j oj hj hoj hcl) }
  refine wp_region_any hm ?_
  have hrep : ∀ j, (Array.replicate ops.size false).getD j false = false := fun j => by
    rw [Array.getD_eq_getD_getElem?, Array.getElem?_replicate]; split <;> rfl
  have hemptyF : ∀ m t, frD A0 ops kf (frf 0) outf (fun j => (Array.replicate ops.size false).getD j false) m t = (look (frf 0) t).map fun v => (v, A0) := fun m t => by
    induction m with
    | zero => rfl
    | succ m ih => simp only [frD]; rw [if_neg (by rw [hrep]; simp)]; exact ih
  have hemptyH : ∀ m id, HD A0 ops kf (Hf 0) outf (fun j => (Array.replicate ops.size false).getD j false) m id = ofHeap (Hf 0) A0 id := fun m id => by
    induction m with
    | zero => rfl
    | succ m ih => simp only [HD]; rw [if_neg (by rw [hrep]; simp)]; exact ih
  refine draw_any T hd (w0 := w) (G0 := G) (ρ0 := ρ) (Q' := Post Γ nt C0 kb w G ρ Q) (fun w' G' ρ' a' hinv hst => ?_) ops.size _ { w with drawn := w.drawn + 1 } G ρ a (by simp) ?_ (fun i o e hl => by rw [hrep] at hl; cases hl) ⟨?_, hi.size, hi.defers, fun t v A hv => ?_⟩ (step_same _ rfl rfl rfl rfl)
  ·
    have hkn : kb ≤ kf ops.size := Nat.le_trans (by rw [h1]; exact hk) (kf_mono T ops.size 0 (by omega) (Nat.le_refl _))
    have hold : ∀ x, A0 x → alw C0 kb (kf ops.size) x := fun x hx => by
      have h0 := kf_mono T ops.size 0 (by omega) (Nat.le_refl _)
      rw [hA0e] at hx
      rcases hx with hx | hx
      · exact .inl hx
      · exact .inr ⟨hx.1, by omega⟩
    have hnw : ∀ j, j < ops.size → ∀ x, newN kf j x → alw C0 kb (kf ops.size) x := fun j hj x hn => by
      have h0 := kf_mono T j 0 (by omega) (by omega)
      have := kf_mono T ops.size (j + 1) (by omega) (Nat.le_refl _)
      unfold newN at hn
      exact .inr ⟨by omega, by omega⟩
    have hle : ∀ j, j < ops.size → ∀ x, Aop A0 ops kf j x → alw C0 kb (kf ops.size) x := fun j hj x hx => by
      rcases hx with (hx | ⟨l, hl, _, hn⟩) | hn
      · exact hold x hx
      · exact hnw l hl x hn
      · exact hnw j hj x hn
    have hF : ∀ t, frD A0 ops kf (frf 0) outf (fun j => decide (j < ops.size)) ops.size t = frD A0 ops kf (frf 0) outf (fun _ => true) ops.size t := fun t => frD_congr _ (fun j hj _ => by simp [hj])
    have hH : ∀ id, HD A0 ops kf (Hf 0) outf (fun j => decide (j < ops.size)) ops.size id = HD A0 ops kf (Hf 0) outf (fun _ => true) ops.size id := fun id => HD_congr _ (fun j hj _ => by simp [hj])
    have hFA : ∀ t m, m ≤ ops.size → ∀ v A, frD A0 ops kf (frf 0) outf (fun _ => true) m t = some (v, A) → ∀ x, A x → alw C0 kb (kf ops.size) x := fun t m => by
      induction m with
      | zero =>
        intro _ v A h x hx
        simp only [frD, Option.map_eq_some_iff] at h
        obtain ⟨u, _, he⟩ := h
        cases he
        exact hold x hx
      | succ m ih =>
        intro hm v A h x hx
        simp only [frD, true_and] at h
        split at h
        · cases h; exact hle m (by omega) x hx
        · exact ih (by omega) v A h x hx
    have hHA : ∀ id m, m ≤ ops.size → ∀ B A, HD A0 ops kf (Hf 0) outf (fun _ => true) m id = some (B, A) → ∀ x, A x → alw C0 kb (kf ops.size) x := fun id m => by
      induction m with
      | zero =>
        intro _ v A h x hx
        simp only [HD, ofHeap, Option.map_eq_some_iff] at h
        obtain ⟨u, _, he⟩ := h
        cases he
        exact hold x hx
      | succ m ih =>
        intro hm B A h x hx
        simp only [HD, if_true] at h
        cases hmod : modAt outf m id with
        | none => rw [hmod] at h; exact ih (by omega) B A h x hx
        | some y =>
          rw [hmod] at h
          simp only [Option.map_eq_some_iff] at h
          obtain ⟨B', _, he⟩ := h
          cases he
          exact hle m (by omega) x hx
    have hst' : Step (below kb) w G ρ w' G' ρ' := ⟨hst.size, hst.keep, hst.shape, hst.g, hst.g', hst.own, fun x hx => hst.ids x (by simp only [below] at hx ⊢; omega), hst.os, hst.tape, hst.output⟩
    refine ⟨G', ρ', kf ops.size, frf ops.size, Hf ops.size, h8 hkn, hkn, ⟨?_, hinv.size, hinv.defers, fun t v hv => ?_⟩, hst'⟩
    · refine hinv.rel.allow _ (fun id hid => ?_) (fun id B A' hid => ?_)
      · simp only [ofHeap, Option.map_eq_none_iff] at hid
        rw [← HD_text T (id := id) ops.size (Nat.le_refl _)] at hid
        rw [hH]
        simpa using hid
      · simp only [ofHeap, Option.map_eq_some_iff] at hid
        obtain ⟨B', hB', he⟩ := hid
        cases he
        rw [← HD_text T (id := id) ops.size (Nat.le_refl _)] at hB'
        simp only [Option.map_eq_some_iff] at hB'
        obtain ⟨⟨B1, A1⟩, h9, h10⟩ := hB'
        simp only at h10; subst h10
        exact ⟨A1, by rw [hH]; exact h9, hHA id ops.size (Nat.le_refl _) _ A1 h9⟩
    · rw [← frD_text T (t := t) ops.size (Nat.le_refl _)] at hv
      simp only [Option.map_eq_some_iff] at hv
      obtain ⟨⟨v1, A1⟩, h9, h10⟩ := hv
      simp only at h10; subst h10
      exact (hinv.frm t v1 A1 (by rw [hF]; exact h9)).mono (fun _ h => h) (fun _ _ => rfl) (fun _ _ => rfl) (hFA t ops.size (Nat.le_refl _) v1 A1 h9) (fun _ _ => .inr rfl)
  · unfold unlisted
    refine Nat.le_trans (List.countP_le_length) ?_
    simp
  · have : HD A0 ops kf (Hf 0) outf (fun j => (Array.replicate ops.size false).getD j false) ops.size = ofHeap (Hf 0) A0 := funext fun id => hemptyH ops.size id
    rw [this, h3, hA0e]
    exact hi.rel.same rfl rfl rfl rfl
  · rw [hemptyF] at hv
    simp only [Option.map_eq_some_iff] at hv
    obtain ⟨u, hu, he⟩ := hv
    cases he
    rw [h2] at hu
    rw [hA0e]
    exact (hi.frm t _ hu).mono (w := w) (w' := { w with drawn := w.drawn + 1 }) (fun _ h => h) (fun _ _ => rfl) (fun _ _ => rfl) (fun _ h => h) (fun _ _ => .inr rfl)
end
end Go.AM
end
section
namespace Go.AM
def callable (P : Program) (g : FuncId) : Bool :=
  match P.funcs[g]? with
  | some fn => fn.body.isSome && fn.name != "runtime.NumGoroutine"
  | none => false
def callOut (v : AVal) (k' : Nat) (Hc Hout : Heap) : Out := ⟨v, k', (Hout.map fun x => (x.1, some x.2)) ++ (Hc.map fun x => (x.1, none)), Hc.map (·.1)⟩
def evArgs (ev : Operand → Option AVal) : List Operand → Option (List AVal)
  | [] => some []
  | x :: r => match ev x, evArgs ev r with
    | some v, some vs => some (v :: vs)
    | _, _ => none
theorem evArgs_spec {ev : Operand → Option AVal} : ∀ {xs : List Operand} {vs : List AVal}, evArgs ev xs = some vs → vs.length = xs.length ∧ ∀ (j : Nat) x v, xs[j]? = some x → vs[j]? = some v → ev x = some v
  | [], vs, h => by cases h; exact ⟨rfl, fun j x v hx => by simp at hx⟩
  | x :: r, vs, h => by
    simp only [evArgs] at h
    split at h
    · rename_i v vs' h1 h2
      cases h
      obtain ⟨h3, h4⟩ := evArgs_spec h2
      refine ⟨by simp [h3], fun j y u hy hu => ?_⟩
      cases j with
      | zero => cases hy; cases hu; exact h1
      | succ j => exact h4 j y u (by simpa using hy) (by simpa using hu)
    · cases h
theorem look_mem {α : Type} : ∀ {l : List (Nat × α)} {i : Nat} {x : α}, look l i = some x → (i, x) ∈ l
  | [], i, x, h => by simp [look] at h
  | (a, y) :: r, i, x, h => by
    simp only [look] at h
    split at h
    · rename_i he; subst he; cases h; simp
    · exact List.mem_cons_of_mem _ (look_mem h)
theorem look_none {α : Type} : ∀ {l : List (Nat × α)} {i : Nat}, look l i = none → ∀ x, (i, x) ∉ l
  | [], i, _, x, hx => by simp at hx
  | (a, y) :: r, i, h, x, hx => by
    simp only [look] at h
    split at h
    · cases h
    · rename_i hne
      rcases List.mem_cons.1 hx with he | he
      · cases he; exact hne rfl
      · exact look_none h x he
theorem look_isSome {α : Type} {l : List (Nat × α)} {i : Nat} {x : α} (h : (i, x) ∈ l) : ∃ y, look l i = some y := by
  cases hl : look l i with
  | none => exact absurd h (look_none hl x)
  | some y => exact ⟨y, rfl⟩
theorem modOf_call (Hc Hout : Heap) (id : Nat) : modOf ((Hout.map fun x => (x.1, some x.2)) ++ (Hc.map fun x => (x.1, (none : Option Blk)))) id =
    match look Hout id with | some B => some (some B) | none => (match look Hc id with | some _ => some none | none => none) := by
  unfold modOf
  induction Hout with
  | nil =>
    simp only [List.map_nil, List.nil_append, look]
    induction Hc with
    | nil => rfl
    | cons x r ih =>
      simp only [List.map_cons, look]
      by_cases h : x.1 = id
      · rw [if_pos h, if_pos h]
      · rw [if_neg h, if_neg h]; exact ih
  | cons x r ih =>
    simp only [List.map_cons, List.cons_append, look]
    by_cases h : x.1 = id
    · rw [if_pos h, if_pos h]
    · rw [if_neg h, if_neg h]; exact ih
def keyB (Hc : Heap) : Nat → Bool := fun i => (look Hc i).isSome
section
variable {P : Program} {Γ : List (Nat × List AVal)} {o : Oper} {ev : Operand → Option AVal} {get : Nat → Option Blk} {k : Nat}
theorem run_call {f : Operand} {args : Array Operand} {ty : Array TypeId} {g : FuncId} (ho : o.op = .call { callee := .value f, args := args, argTypes := ty }) (hg : callable P g = true) (a : Act) (cs : Array Value)
    (hf : a.eval f = .func (.func g) #[] cs) (w : World) : (execOp a.eval o).run P w = .ok (.enter g (args.map a.eval ++ cs)) w := by
  unfold callable at hg
  split at hg
  · rename_i fn hfn
    simp only [Bool.and_eq_true, bne_iff_ne, ne_eq] at hg
    obtain ⟨h1, h2⟩ := hg
    have h3 : fn.body.isNone = false := by cases hb : fn.body with
      | none => rw [hb] at h1; simp at h1
      | some _ => rfl
    simp only [execOp, ho, resolve, hf, Deferred.ofValue, Sem.run_bind, Sem.run_pure, Result.andThen_ok, invoke, callFunc, run_program, hfn]
    rw [if_neg (by simpa using h2)]
    simp [h3]
  · cases hg
theorem call_core {g : FuncId} {vs : List AVal} {Hc Hout : Heap} {r : AVal} {k' : Nat}
    (hrun : ∀ w G ρ (A : Allow) (a : Act), (∀ x, x ∈ o.op.operands → ∀ v, ev x = some v → V w G ρ A v (a.eval x)) → ∃ cargs, (execOp a.eval o).run P w = .ok (.enter g cargs) w ∧ Vs w G ρ A vs cargs)
    (hb : vs.all (bd (keyB Hc)) = true) (hbH : bdH (keyB Hc) Hc = true) (hin : ∀ id B, look Hc id = some B → get id = some B)
    (hT : Tr P Γ g k vs Hc (fun k1 r1 H1 => k1 = k' ∧ r1 = r ∧ H1 = Hout)) (hk : k ≤ k') : Good P Γ o ev get k (callOut r k' Hc Hout) := by
  refine ⟨?_, fun id hid => ?_, hk⟩
  · intro w G ρ H A a hr hA hfr hrd hop next Q hn
    obtain ⟨cargs, hrunc, hVs0⟩ := hrun w G ρ A a hop
    have hHc : ∀ id B, look Hc id = some B → ∃ A', H id = some (B, A') ∧ ∀ i, A' i → A i := fun id B hB => by
      obtain ⟨B', A', h1, h2, h3⟩ := hrd id (by simp only [callOut, List.mem_map]; exact ⟨(id, B), look_mem hB, rfl⟩)
      rw [hin id B hB] at h1; cases h1
      exact ⟨A', h2, h3⟩
    let ρc : Names := fun id => if keyB Hc id = true then ρ id else none
    let Ac : Allow := fun i => A i ∧ keyB Hc i = true
    have hρc : ∀ id, keyB Hc id = true → ρc id = ρ id := fun id h => by simp only [ρc, h, if_true]
    have hρc0 : ∀ id, keyB Hc id = false → ρc id = none := fun id h => by simp only [ρc, h]; rfl
    have toC : ∀ v cv, V w G ρ (fun i => A i ∧ keyB Hc i = true) v cv → V w G ρc Ac v cv := fun v cv h =>
      h.mono (fun _ h => h) (fun _ _ => rfl) (fun _ _ => rfl) (fun _ h => h) (fun i hi => .inr (hρc i hi.2))
    have hsomec : ∀ id x, ρc id = some x → ρ id = some x ∧ keyB Hc id = true := fun id x h => by
      cases hkb : keyB Hc id with
      | false => rw [hρc0 id hkb] at h; cases h
      | true => rw [hρc id hkb] at h; exact ⟨h, rfl⟩
    have hrelc : HRel Γ w G ρc (ofHeap Hc Ac) := by
      refine ⟨fun id hid => ?_, fun id B A1 hid => ?_, fun i j b s t hi hj => hr.inj i j b s t (hsomec _ _ hi).1 (hsomec _ _ hj).1, hr.ro, hr.glob⟩
      · simp only [ofHeap, Option.map_eq_none_iff] at hid
        exact hρc0 id (by simp [keyB, hid])
      · simp only [ofHeap, Option.map_eq_some_iff] at hid
        obtain ⟨B', hB', he⟩ := hid
        cases he
        obtain ⟨A', h1, h2⟩ := hHc id B hB'
        obtain ⟨h3, b, h4, h5, ⟨⟨C, ty', hC, hrows⟩, hlen⟩⟩ := hr.blk id B A' h1
        have hkb : keyB Hc id = true := by simp [keyB, hB']
        refine ⟨⟨h2 _ h3, hkb⟩, b, by rw [hρc id hkb]; exact h4, h5, ⟨⟨C, ty', hC, fun r row c v h6 h7 => ?_⟩, hlen⟩⟩
        obtain ⟨cv, h8, h9⟩ := hrows r row c v h6 h7
        refine ⟨cv, h8, ?_⟩
        by_cases hp : B.pure = true
        · simp only [hp, if_true] at h9 ⊢; exact h9
        · simp only [hp] at h9 ⊢
          have h10 := look_all hbH hB'
          simp only [Bool.and_eq_true, Bool.or_eq_true] at h10
          have h11 := all_get (all_get (h10.2.resolve_left hp) h6) h7
          have h12 : V w G ρ A v cv := h9.mono (fun _ h => h) (fun _ _ => rfl) (fun _ _ => rfl) h2 (fun _ _ => .inr rfl)
          exact toC _ _ (V_bd0 h12 h11)
    have hVs : Vs w G ρc Ac vs cargs := ⟨hVs0.1, fun j v hj => toC _ _ (V_bd (hVs0.2 j v hj) (all_get hb hj))⟩
    have hcall := hT Ac (fun i hi => hA i hi.1) w G ρc cargs hrelc hVs
    unfold Oper.wp
    rw [hrunc]
    refine hcall.mono fun e w' hp => ?_
    obtain ⟨cv, G', ρ', k1, r1, H1, rfl, ⟨rfl, rfl, rfl⟩, hkk, hrel', hV', hst'⟩ := hp
    have hHout : ∀ id B, look H1 id = some B → keyB Hc id = true ∨ (k ≤ id ∧ id < k1) := fun id B hB => by
      obtain ⟨h1, b, h2, _⟩ := hrel'.blk id B (alw Ac k k1) (by simp [ofHeap, hB])
      rcases h1 with h1 | h1
      · exact .inl h1.2
      · exact .inr h1
    let ρ'' : Names := fun id => if keyB Hc id = true ∨ keyB H1 id = true then ρ' id else ρ id
    have hn1 : ∀ id, keyB Hc id = true → ρ'' id = ρ' id := fun id h => by simp only [ρ'']; rw [if_pos (.inl h)]
    have hn2 : ∀ id, keyB H1 id = true → ρ'' id = ρ' id := fun id h => by simp only [ρ'']; rw [if_pos (.inr h)]
    have hn3 : ∀ id, keyB Hc id = false → keyB H1 id = false → ρ'' id = ρ id := fun id h h' => by simp only [ρ'']; rw [if_neg (by rw [h, h']; simp)]
    have hnew : ∀ id, k ≤ id → id < k1 → ρ'' id = ρ' id := fun id h1 h2 => by
      cases hkc : keyB Hc id with
      | true => exact hn1 id hkc
      | false =>
        cases hk1 : keyB H1 id with
        | true => exact hn2 id hk1
        | false =>
          rw [hn3 id hkc hk1, (hfr id h1 h2).1, hrel'.dom id (by simp only [ofHeap]; simp only [keyB] at hk1; simp at hk1; rw [hk1]; rfl)]
    have hkeyA : ∀ id, keyB Hc id = true → A id := fun id h => by
      obtain ⟨B, hB⟩ := Option.isSome_iff_exists.1 h
      obtain ⟨A', h1, h2⟩ := hHc id B hB
      exact h2 _ (hr.blk id B A' h1).1
    have hback : ∀ id, ¬ (k ≤ id ∧ id < k1) → ρ'' id = none ∨ ρ'' id = ρ id := fun id hid => by
      cases hkc : keyB Hc id with
      | true =>
        rw [hn1 id hkc]
        rcases hst'.ids id (hA id (hkeyA id hkc)) with h | h
        · exact .inl h
        · exact .inr (h.trans (hρc id hkc))
      | false =>
        cases hk1 : keyB H1 id with
        | true =>
          obtain ⟨B, hB⟩ := Option.isSome_iff_exists.1 hk1
          rcases hHout id B hB with h | h
          · rw [hkc] at h; cases h
          · exact absurd h hid
        | false => exact .inr (hn3 id hkc hk1)
    have hown : ∀ b, owned ρc b → owned ρ b := fun b ⟨id, s, h⟩ => ⟨id, s, (hsomec _ _ h).1⟩
    have hst : Step (fun i => ¬ (k ≤ i ∧ i < k1)) w G ρ w' G' ρ'' := by
      refine ⟨hst'.size, fun b hb ho' => hst'.keep b hb (fun h => ho' (hown b h)), hst'.shape, hst'.g, fun b hb => ?_, ?_, hback, hst'.os, hst'.tape, hst'.output⟩
      · rcases hst'.g' b hb with h | h | h
        · exact .inl h
        · exact .inr (.inl (hown b h))
        · exact .inr (.inr h)
      · rintro b ⟨id, s, h⟩
        simp only [ρ''] at h
        split at h
        · rcases hst'.own b ⟨id, s, h⟩ with h | h
          · exact .inl (hown b h)
          · exact .inr h
        · exact .inl ⟨id, s, h⟩
    have hVV : ∀ v cv, V w' G' ρ' (alw Ac k k1) v cv → V w' G' ρ'' (fun i => A i ∨ (k ≤ i ∧ i < k1)) v cv := fun v cv h =>
      h.mono (fun _ h => h) (fun _ _ => rfl) (fun _ _ => rfl) (fun i hi => hi.imp (fun h => h.1) id) (fun i hi => by
        rcases hi with hi | hi
        · exact .inr (hn1 i hi.2)
        · exact .inr (hnew i hi.1 hi.2))
    refine hn w' G' ρ'' cv ?_ (hVV _ _ hV') hst
    have hupd : ∀ id, updO H (fun i => A i ∨ (k ≤ i ∧ i < k1)) (callOut r1 k1 Hc H1).upd id = match look H1 id with | some B => some (B, fun i => A i ∨ (k ≤ i ∧ i < k1)) | none => (match look Hc id with | some _ => none | none => H id) := fun id => by
      rw [updO_modOf]
      show (match modOf ((H1.map fun x => (x.1, some x.2)) ++ (Hc.map fun x => (x.1, (none : Option Blk)))) id with | some x => x.map fun B => (B, fun i => A i ∨ (k ≤ i ∧ i < k1)) | none => H id) = _
      rw [modOf_call]
      cases look H1 id with
      | some B => rfl
      | none => cases look Hc id <;> rfl
    refine hr.after hst _ (fun id hid => ?_) (fun id B A1 hid => ?_) (fun i j b s t hi hj => ?_) hrel'.ro
    · have hid' : updO H (fun i => A i ∨ (k ≤ i ∧ i < k1)) (callOut r1 k1 Hc H1).upd id = none := hid
      rw [hupd] at hid'
      cases h1 : look H1 id with
      | some B => rw [h1] at hid'; cases hid'
      | none =>
        rw [h1] at hid'
        cases h2 : look Hc id with
        | some B =>
          rw [hn1 id (by simp [keyB, h2])]
          exact hrel'.dom id (by simp [ofHeap, h1])
        | none =>
          rw [h2] at hid'
          rw [hn3 id (by simp [keyB, h2]) (by simp [keyB, h1])]
          exact hr.dom id hid'
    · have hid' : updO H (fun i => A i ∨ (k ≤ i ∧ i < k1)) (callOut r1 k1 Hc H1).upd id = some (B, A1) := hid
      rw [hupd] at hid'
      cases h1 : look H1 id with
      | some B' =>
        rw [h1] at hid'
        cases hid'
        obtain ⟨h2, b, h3, h4, ⟨⟨C, ty', hC, hrows⟩, hlen⟩⟩ := hrel'.blk id B (alw Ac k k1) (by simp [ofHeap, h1])
        refine ⟨h2.imp (fun h => h.1) (fun h => h), .inr ⟨b, by rw [hn2 id (by simp [keyB, h1])]; exact h3, h4, ⟨⟨C, ty', hC, fun r row c v h6 h7 => ?_⟩, hlen⟩⟩⟩
        obtain ⟨cv', h8, h9⟩ := hrows r row c v h6 h7
        refine ⟨cv', h8, ?_⟩
        by_cases hp : B.pure = true
        · simp only [hp, if_true] at h9 ⊢; exact h9
        · simp only [hp] at h9 ⊢; exact hVV _ _ h9
      | none =>
        rw [h1] at hid'
        cases h2 : look Hc id with
        | some B' => rw [h2] at hid'; cases hid'
        | none =>
          rw [h2] at hid'
          obtain ⟨h3, b, h4, h5, _⟩ := hr.blk id B A1 hid'
          have hnc : ¬ owned ρc b := fun ⟨i', s', h⟩ => by
            obtain ⟨h6, h7⟩ := hsomec _ _ h
            have := hr.inj i' id _ _ _ h6 h4
            subst this
            simp [keyB, h2] at h7
          have hbl := hr.owned_lt ⟨id, _, h4⟩
          refine ⟨h3, .inl ⟨A1, b, hid', fun _ h => h, fun i hi hc => (hfr i hc.1 hc.2).2 id B A1 hid' hi, by rw [hn3 id (by simp [keyB, h2]) (by simp [keyB, h1])], h4, hst'.keep b hbl hnc, fun hg' => ?_⟩⟩
          rcases hst'.g' b hg' with h | h | h
          · exact h5 h
          · exact hnc h
          · omega
    ·
      have side : ∀ i s, ρ'' i = some (b, s) → (ρ' i = some (b, s) ∧ (keyB Hc i = true ∨ keyB H1 i = true)) ∨ (ρ i = some (b, s) ∧ keyB Hc i = false) := fun i s h => by
        simp only [ρ''] at h
        split at h
        · rename_i hc; exact .inl ⟨h, hc⟩
        · rename_i hc; exact .inr ⟨h, by cases hkc : keyB Hc i with | true => exact absurd (.inl hkc) hc | false => rfl⟩
      have cross : ∀ i j s t, ρ' i = some (b, s) → ρ j = some (b, t) → keyB Hc j = false → False := fun i j s t h1 h2 h3 => by
        rcases hst'.own b ⟨i, s, h1⟩ with ⟨i', s', h⟩ | h
        · obtain ⟨h4, h5⟩ := hsomec _ _ h
          have := hr.inj i' j _ _ _ h4 h2
          subst this
          rw [h3] at h5; cases h5
        · have := hr.owned_lt ⟨j, t, h2⟩; omega
      rcases side i s hi with ⟨h1, _⟩ | ⟨h1, h1'⟩ <;> rcases side j t hj with ⟨h2, _⟩ | ⟨h2, h2'⟩
      · exact hrel'.inj i j b s t h1 h2
      · exact (cross i j s t h1 h2 h2').elim
      · exact (cross j i t s h2 h1 h1').elim
      · exact hr.inj i j b s t h1 h2
  · simp only [callOut, List.mem_map] at hid
    obtain ⟨x, hx, rfl⟩ := hid
    obtain ⟨y, hy⟩ := look_isSome hx
    rw [hin _ y hy]; rfl
theorem args_Vs {w : World} {G : Nat → Prop} {ρ : Names} {A : Allow} {a : Act} {args : Array Operand} {vs : List AVal} (ha : evArgs ev args.toList = some vs) (hop : ∀ x, x ∈ args → ∀ v, ev x = some v → V w G ρ A v (a.eval x)) :
    Vs w G ρ A vs (args.map a.eval) := by
  obtain ⟨hal, haev⟩ := evArgs_spec ha
  refine ⟨by simp [hal], fun j v hj => ?_⟩
  have hlt := (List.getElem?_eq_some_iff.1 hj).1
  have hltA : j < args.size := by rw [hal] at hlt; simpa using hlt
  have hx : args[j]? = some args[j] := Array.getElem?_eq_getElem hltA
  have h2 := hop args[j] (by simp) v (haev j args[j] v (by rw [Array.getElem?_toList]; exact hx) hj)
  have e : (args.map a.eval).getD j undef = a.eval args[j] := by rw [Array.getD_eq_getD_getElem?, Array.getElem?_map, hx]; rfl
  rw [e]; exact h2
theorem Vs_append {w : World} {G : Nat → Prop} {ρ : Names} {A : Allow} {us vs : List AVal} {cs ds : Array Value} (h : Vs w G ρ A us cs) (g : Vs w G ρ A vs ds) : Vs w G ρ A (us ++ vs) (cs ++ ds) := by
  refine ⟨by simp [h.1, g.1], fun j v hj => ?_⟩
  rw [List.getElem?_append] at hj
  split at hj
  · rename_i hlt
    have e : (cs ++ ds).getD j undef = cs.getD j undef := by
      rw [Array.getD_eq_getD_getElem?, Array.getD_eq_getD_getElem?, Array.getElem?_append_left (by rw [← h.1]; exact hlt)]
    rw [e]; exact h.2 j v hj
  · rename_i hge
    have hs := h.1
    have e : (cs ++ ds).getD j undef = ds.getD (j - us.length) undef := by
      rw [Array.getD_eq_getD_getElem?, Array.getD_eq_getD_getElem?, Array.getElem?_append_right (by omega), hs]
    rw [e]; exact g.2 _ v hj
theorem call_ok {f : Operand} {args : Array Operand} {ty : Array TypeId} {g : FuncId} {caps vs : List AVal} {Hc Hout : Heap} {r : AVal} {k' : Nat}
    (ho : o.op = .call { callee := .value f, args := args, argTypes := ty }) (hg : callable P g = true) (hf : ev f = some (.fn g caps)) (ha : evArgs ev args.toList = some vs)
    (hb : (vs ++ caps).all (bd (keyB Hc)) = true) (hbH : bdH (keyB Hc) Hc = true) (hin : ∀ id B, look Hc id = some B → get id = some B)
    (hT : Tr P Γ g k (vs ++ caps) Hc (fun k1 r1 H1 => k1 = k' ∧ r1 = r ∧ H1 = Hout)) (hk : k ≤ k') : Good P Γ o ev get k (callOut r k' Hc Hout) :=
  call_core (fun w G ρ A a hop => by
    have hvf := hop f (by simp [ho, Op.operands, Call.operands]) _ hf
    generalize hev : a.eval f = cv at hvf
    cases hvf with
    | fn h1 h2 => exact ⟨_, run_call ho hg a _ hev w, Vs_append (args_Vs ha fun x hx v hv => hop x (by simp [ho, Op.operands, Call.operands, hx]) v hv) ⟨h1, h2⟩⟩) hb hbH hin hT hk
theorem callb_ok {f : Operand} {args : Array Operand} {ty : Array TypeId} {g : FuncId} {i r0 c0 : Nat} {vs : List AVal} {Hc Hout : Heap} {r : AVal} {k' : Nat}
    (ho : o.op = .call { callee := .value f, args := args, argTypes := ty }) (hg : callable P g = true) (hf : ev f = some (.bfn g i r0 c0)) (ha : evArgs ev args.toList = some vs)
    (hb : (.ptr i r0 c0 :: vs).all (bd (keyB Hc)) = true) (hbH : bdH (keyB Hc) Hc = true) (hin : ∀ id B, look Hc id = some B → get id = some B)
    (hT : Tr P Γ g k (.ptr i r0 c0 :: vs) Hc (fun k1 r1 H1 => k1 = k' ∧ r1 = r ∧ H1 = Hout)) (hk : k ≤ k') : Good P Γ o ev get k (callOut r k' Hc Hout) :=
  call_core (fun w G ρ A a hop => by
    have hvf := hop f (by simp [ho, Op.operands, Call.operands]) _ hf
    generalize hev : a.eval f = cv at hvf
    cases hvf with
    | bfn h1 =>
      rename_i c1
      refine ⟨#[c1] ++ args.map a.eval, ?_, Vs_append (us := [.ptr i r0 c0]) (cs := #[c1]) ⟨rfl, fun j v hj => ?_⟩ (args_Vs ha fun x hx v hv => hop x (by simp [ho, Op.operands, Call.operands, hx]) v hv)⟩
      · unfold callable at hg
        split at hg
        · rename_i fn hfn
          simp only [Bool.and_eq_true, bne_iff_ne, ne_eq] at hg
          obtain ⟨h3, h4⟩ := hg
          have h5 : fn.body.isNone = false := by cases hb : fn.body with
            | none => rw [hb] at h3; simp at h3
            | some _ => rfl
          simp only [execOp, ho, resolve, hev, Deferred.ofValue, Sem.run_bind, Sem.run_pure, Result.andThen_ok, invoke, callFunc, run_program, hfn]
          rw [if_neg (by simpa using h4)]
          simp [h5]
        · cases hg
      · cases j with
        | zero => cases hj; exact h1
        | succ j => simp at hj) hb hbH hin hT hk
def resV (P : Program) (fr : Fr) (H : Heap) : ResultVar → Option AVal
  | .tmp t => look fr t
  | .cell a t => match look fr a, tagg P t, tsz P t with
    | some (.ptr id r c), some ag, some n => (look H id).bind fun B => if r = 0 ∧ c = 0 ∧ B.sz < n then rowPart ag n B.rows.flatten 0 else (B.rows[r]?).bind fun row => rowPart ag n row c
    | _, _, _ => none
def resVs (P : Program) (fr : Fr) (H : Heap) : List ResultVar → Option (List AVal)
  | [] => some []
  | x :: r => match resV P fr H x, resVs P fr H r with
    | some v, some vs => some (v :: vs)
    | _, _ => none
def resA (P : Program) (fn : Func) (fr : Fr) (H : Heap) : Option AVal :=
  match resVs P fr H fn.results.toList with
  | some [v] => some v
  | some vs => some (.tup vs)
  | none => none
def retQ (P : Program) (fn : Func) (Q : Nat → AVal → Heap → Prop) : AQ
  | .normal, k, fr, H => ∃ r, resA P fn fr H = some r ∧ Q k r H
  | .ret, k, fr, H => ∃ r, resA P fn fr H = some r ∧ Q k r H
  | _, _, _, _ => False
def loadRes (tmps : Array Value) : ResultVar → Sem Value
  | .tmp t => pure (tmps.getD t undef)
  | .cell a t => do loadVar t (← asAddr (tmps.getD a undef))
theorem resV_run {A : Allow} {nt : Nat} {fr : Fr} {H : Heap} {w : World} {G : Nat → Prop} {ρ : Names} {a : Act} (hi : Inv Γ nt w G ρ A a fr H) {x : ResultVar} {v : AVal} (h : resV P fr H x = some v) :
    ∃ cv, (loadRes a.tmps x).run P w = .ok cv w ∧ V w G ρ A v cv := by
  cases x with
  | tmp t => exact ⟨_, rfl, hi.frm t v h⟩
  | cell ad t =>
    simp only [resV] at h
    split at h
    · rename_i id r c ag n h1 h2 h3
      obtain ⟨B, hB, h4⟩ := Option.bind_eq_some_iff.1 h
      have hv := hi.frm ad _ h1
      obtain ⟨_, b, hb, _, hBR⟩ := hi.rel.blk id B A (by simp [ofHeap, hB])
      generalize hev : a.tmps.getD ad undef = cv at hv
      split at h4
      · rename_i hc0
        obtain ⟨rfl, rfl, _⟩ := hc0
        cases hv with
        | dang _ hn => rw [hb] at hn; cases hn
        | ptr ha hρ hsh =>
          rw [hb] at hρ; cases hρ
          obtain ⟨⟨C, ty, hC, hrows⟩, hlen⟩ := hBR.old hsh
          have hcell : ∀ (j : Nat) u, B.rows.flatten[j]? = some u → w.cell? ⟨b, 0 * B.sz + j, none⟩ = some (C.getD (0 * B.sz + j) undef) := fun j u hj => by
            obtain ⟨r, row, c, h3, h4, rfl⟩ := flat_get hlen j u hj
            obtain ⟨cv, h5, _⟩ := hrows r row c u h3 h4
            rw [Nat.zero_mul, Nat.zero_add, cell_of_row w b _ C ty (0, 0) hC, h5, Array.getD_eq_getD_getElem?, h5]; rfl
          have hval : ∀ (j : Nat) u, B.rows.flatten[j]? = some u → V w G ρ A u (C.getD (0 * B.sz + j) undef) := fun j u hj => by
            obtain ⟨r, row, c, h3, h4, rfl⟩ := flat_get hlen j u hj
            obtain ⟨cv, h5, h6⟩ := hrows r row c u h3 h4
            rw [Nat.zero_mul, Nat.zero_add, Array.getD_eq_getD_getElem?, h5]
            by_cases hp : B.pure = true
            · simp only [hp, if_true] at h6; exact h6.weaken
            · simp only [hp] at h6; exact h6
          obtain ⟨cv, hrun, hV⟩ := load_part (P := P) h2 h3 h4 (fun j => C.getD (0 * B.sz + j) undef) hcell hval
          refine ⟨cv, ?_, hV⟩
          simp only [Instr.loadAt, Instr.sureAddr, Sem.run_bind, Sem.run_pure, Result.andThen_ok] at hrun
          show Sem.run P (do loadVar t (← asAddr (a.tmps.getD ad undef))) w = _
          rw [hev]
          simpa [asAddr] using hrun
      obtain ⟨row, hrow, h5⟩ := Option.bind_eq_some_iff.1 h4
      cases hv with
      | dang _ hn => rw [hb] at hn; cases hn
      | ptr ha hρ hsh =>
        rw [hb] at hρ; cases hρ
        obtain ⟨⟨C, ty, hC, hrows⟩, hlen⟩ := hBR.old hsh
        have hcell : ∀ j u, row[j]? = some u → w.cell? ⟨b, r * B.sz + j, none⟩ = some (C.getD (r * B.sz + j) undef) := fun j u hj => by
          obtain ⟨cv, h3, _⟩ := hrows r row j u hrow hj
          rw [cell_of_row w b _ C ty (0, 0) hC, h3, Array.getD_eq_getD_getElem?, h3]; rfl
        have hval : ∀ j u, row[j]? = some u → V w G ρ A u (C.getD (r * B.sz + j) undef) := fun j u hj => by
          obtain ⟨cv, h3, h4⟩ := hrows r row j u hrow hj
          rw [Array.getD_eq_getD_getElem?, h3]
          by_cases hp : B.pure = true
          · simp only [hp, if_true] at h4; exact h4.weaken
          · simp only [hp] at h4; exact h4
        obtain ⟨cv, hrun, hV⟩ := load_part (P := P) h2 h3 h5 (fun j => C.getD (r * B.sz + j) undef) hcell hval
        refine ⟨cv, ?_, hV⟩
        simp only [Instr.loadAt, Instr.sureAddr, Sem.run_bind, Sem.run_pure, Result.andThen_ok] at hrun
        show Sem.run P (do loadVar t (← asAddr (a.tmps.getD ad undef))) w = _
        rw [hev]
        simp [asAddr, hrun]
    · cases h
theorem resVs_run {A : Allow} {nt : Nat} {fr : Fr} {H : Heap} {w : World} {G : Nat → Prop} {ρ : Names} {a : Act} (hi : Inv Γ nt w G ρ A a fr H) : ∀ {xs : List ResultVar} {vs : List AVal}, resVs P fr H xs = some vs →
    ∃ cs : List Value, (xs.mapM (loadRes a.tmps)).run P w = .ok cs w ∧ vs.length = cs.length ∧
      ∀ (j : Nat) v c, vs[j]? = some v → cs[j]? = some c → V w G ρ A v c
  | [], vs, h => by cases h; exact ⟨[], rfl, rfl, fun j v c hv => by simp at hv⟩
  | x :: r, vs, h => by
    simp only [resVs] at h
    split at h
    · rename_i v vs' h1 h2
      cases h
      obtain ⟨cv, h3, h4⟩ := resV_run hi h1
      obtain ⟨cs, h5, h6, h7⟩ := resVs_run hi h2
      refine ⟨cv :: cs, ?_, by simp [h6], fun j u c hu hc => ?_⟩
      · rw [List.mapM_cons, Sem.run_bind, h3, Result.andThen_ok, Sem.run_bind, h5]; rfl
      · cases j with
        | zero => cases hu; cases hc; exact h4
        | succ j => exact h7 j u c (by simpa using hu) (by simpa using hc)
    · cases h
theorem resA_run {A : Allow} {nt : Nat} {fn : Func} {fr : Fr} {H : Heap} {w : World} {G : Nat → Prop} {ρ : Names} {a : Act} (hi : Inv Γ nt w G ρ A a fr H) {r : AVal} (h : resA P fn fr H = some r) :
    ∃ cv, (results fn a.tmps).run P w = .ok cv w ∧ V w G ρ A r cv := by
  unfold resA at h
  cases hvs : resVs P fr H fn.results.toList with
  | none => rw [hvs] at h; cases h
  | some vs =>
    obtain ⟨cs, h1, h2, h3⟩ := resVs_run hi hvs
    have hmap : (fn.results.mapM (loadRes a.tmps)).run P w = .ok cs.toArray w := by
      rw [Array.mapM_eq_mapM_toList, Sem.run_map, h1]; rfl
    have hres : (results fn a.tmps).run P w = .ok (if h : cs.toArray.size = 1 then cs.toArray[0] else .tuple cs.toArray) w := by
      show Sem.run P (do let vs ← fn.results.mapM (loadRes a.tmps); pure (if h : vs.size = 1 then vs[0] else .tuple vs)) w = _
      rw [Sem.run_bind, hmap]; rfl
    refine ⟨_, hres, ?_⟩
    rw [hvs] at h
    match vs, h, h2, h3 with
    | [v], h, h2, h3 =>
      cases h
      match cs, h2, h3 with
      | [c], _, h3 => exact h3 0 _ c rfl rfl
    | [], h, h2, h3 =>
      cases h
      match cs, h2 with
      | [], _ => exact .tup rfl (fun j v hj => by simp at hj)
    | v1 :: v2 :: vr, h, h2, h3 =>
      cases h
      match cs, h2, h3 with
      | c1 :: c2 :: cr, h2, h3 =>
        rw [dif_neg (by simp)]
        refine .tup (by simpa using h2) fun j v hj => ?_
        have hlt := (List.getElem?_eq_some_iff.1 hj).1
        have hlt' : j < (c1 :: c2 :: cr).length := by omega
        have e : (c1 :: c2 :: cr).toArray.getD j undef = (c1 :: c2 :: cr)[j] := by
          rw [Array.getD_eq_getD_getElem?, List.getElem?_toArray, List.getElem?_eq_getElem hlt']; rfl
        rw [e]
        exact h3 j v _ hj (List.getElem?_eq_getElem hlt')
theorem Tr_body {f : FuncId} {fn : Func} {c : Code} {args : List AVal} {H : Heap} {Q : Nat → AVal → Heap → Prop} (hf : P.funcs[f]? = some fn) (hb : fn.body = some c) (hn : args.length ≤ fn.ntmps)
    (h : W P Γ fn.ntmps k c (retQ P fn Q) k (argFr 0 args) H) : Tr P Γ f k args H Q := by
  intro A hA w G ρ cargs hrel hargs
  have hi : Inv Γ fn.ntmps w G ρ (alw A k k) { tmps := cargs ++ Array.replicate (fn.ntmps - cargs.size) undef, defers := [] } (argFr 0 args) H := by
    have hAk : A = alw A k k := funext fun i => by simp only [alw, eq_iff_iff]; constructor; · exact .inl
                                                   · rintro (h | h); · exact h
                                                     · omega
    rw [← hAk]
    refine ⟨hrel, by simp [← hargs.1]; omega, rfl, fun t v hv => ?_⟩
    obtain ⟨_, h2⟩ := argFr_look args 0 t v hv
    simp only [Nat.sub_zero] at h2
    have hlt := (List.getElem?_eq_some_iff.1 h2).1
    have := hargs.2 t v h2
    have e : (cargs ++ Array.replicate (fn.ntmps - cargs.size) undef).getD t undef = cargs.getD t undef := by
      rw [Array.getD_eq_getD_getElem?, Array.getD_eq_getD_getElem?, Array.getElem?_append_left (by rw [← hargs.1]; exact hlt)]
    rw [e]; exact this
  refine calls_of_wp hf hb (wp_mono (h A hA (Nat.le_refl _) w G ρ _ hi) fun e a' w' hp => ?_)
  obtain ⟨G', ρ', k', fr', H', hQ, hk', hi', hst⟩ := hp
  have fin : (∃ r, resA P fn fr' H' = some r ∧ Q k' r H') → a'.defers = [] ∧ ∃ v, (results fn a'.tmps).run P w' = .ok v w' ∧ ∃ cv G' ρ' k' r H', Ending.returned v = .returned cv ∧ Q k' r H' ∧ k ≤ k' ∧ HRel Γ w' G' ρ' (ofHeap H' (alw A k k')) ∧ V w' G' ρ' (alw A k k') r cv ∧ Step (below k) w G ρ w' G' ρ' := by
    rintro ⟨r, hr, hq⟩
    obtain ⟨cv, h1, h2⟩ := resA_run (P := P) (fn := fn) hi' hr
    exact ⟨hi'.defers, cv, h1, cv, G', ρ', k', r, H', rfl, hq, hk', hi'.rel, h2, hst⟩
  cases e with
  | normal => exact fin hQ
  | ret => exact fin hQ
  | exit id => exact hQ.elim
  | goto l => exact hQ.elim
  | panic ch => exact hQ.elim
  | outgrown => exact hQ.elim
end
end Go.AM
end
