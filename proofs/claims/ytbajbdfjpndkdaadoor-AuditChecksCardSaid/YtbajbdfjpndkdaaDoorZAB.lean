import Derived.Test.YtbajbdfjpndkdaaDoorZAA
import Derived.Laws.StructEq

section
/-
  The abstract machine, part 10: a region that draws its order: what its operations come to in the text's order they come to in every order, if those that touch the same things are ordered.
-/
namespace Go.AM

inductive Bef (ops : Array Oper) : Nat → Nat → Prop
  | edge {i o e} : ops[i]? = some o → e ∈ o.after → Region.binds .any e = true → Bef ops e.on i
  | trans {a b c} : Bef ops a b → Bef ops b c → Bef ops a c

def befB (ops : Array Oper) : Nat → Nat → Nat → Bool
  | 0, _, _ => false
  | f + 1, j, i => match ops[i]? with
    | some o => o.after.toList.any fun e => Region.binds .any e && (e.on == j || befB ops f j e.on)
    | none => false

theorem befB_spec {ops : Array Oper} : ∀ (f j i : Nat), befB ops f j i = true → Bef ops j i := by
  intro f
  induction f with
  | zero => intro j i h; cases h
  | succ f ih =>
    intro j i h
    simp only [befB] at h
    split at h
    · rename_i o ho
      obtain ⟨e, he', hb⟩ := List.any_eq_true.1 h
      have he : e ∈ o.after := by simpa using he'
      simp only [Bool.and_eq_true, Bool.or_eq_true, beq_iff_eq] at hb
      obtain ⟨h1, h2⟩ := hb
      rcases h2 with rfl | h2
      · exact .edge ho he h1
      · exact .trans (ih j e.on h2) (.edge ho he h1)
    · cases h

def readsOf (ops : Array Oper) (o : Oper) : List Nat :=
  (o.op.operands.toList.filterMap fun | .tmp t => some t | _ => none) ++ (match o.guard with | some (j, _) => ((ops[j]?).bind (·.dst)).toList | none => [])

def meets (a b : List Nat) : Bool := a.any fun x => b.contains x
def dstL (o : Oper) : List Nat := o.dst.toList

/-- do two operations touch the same slot or block, one of them to change it? -/
def clash (ops : Array Oper) (oj : Oper) (fj : Foot) (oi : Oper) (fi : Foot) : Bool :=
  meets (dstL oj) (readsOf ops oi) || meets (dstL oj) (dstL oi) || meets (dstL oi) (readsOf ops oj) || meets fj.mods fi.rds || meets fj.mods fi.mods || meets fj.rds fi.mods

def drawOk (ops : Array Oper) (tr : List Foot) : Bool :=
  (List.range ops.size).all fun i => match ops[i]?, tr[i]? with
    | some oi, some fi => (oi.after.toList.all fun e => !Region.binds .any e || decide (e.on < i)) && (fi.mods.all fun x => decide (x < fi.k')) &&
        (List.range i).all fun j => match ops[j]?, tr[j]? with
          | some oj, some fj => !clash ops oj fj oi fi || befB ops ops.size j i
          | _, _ => false
    | _, _ => false

theorem meets_no {a b : List Nat} (h : meets a b = false) {x : Nat} (h1 : x ∈ a) (h2 : x ∈ b) : False := by
  unfold meets at h
  have := List.any_eq_false.1 h x h1
  simp at this
  exact this h2

section
variable {P : Program} {Γ : List (Nat × List AVal)} {nt kb : Nat} {Q : AQ} {k : Nat} {fr : Fr} {H : Heap}

def TStep (P : Program) (Γ : List (Nat × List AVal)) (ops : Array Oper) (o : Oper) (k : Nat) (fr : Fr) (H : Heap) (out : Option Out) (k' : Nat) (fr' : Fr) (H' : Heap) : Prop :=
  match out with
  | none => guardOf ops fr o = some false ∧ k' = k ∧ fr' = putO fr o.dst (.lit undef) ∧ H' = H
  | some out => guardOf ops fr o = some true ∧ Good P Γ o (aeval Γ fr) (look H) k out ∧ k' = out.k ∧ fr' = putO fr o.dst out.v ∧ H' = updH H out.upd

def footOf (k k' : Nat) : Option Out → Foot
  | none => ⟨[], [], k, k'⟩
  | some out => ⟨out.rds, out.upd.map (·.1), k, k'⟩

theorem run_text {ops : Array Oper} : ∀ (l : List Oper) (k : Nat) (fr : Fr) (H : Heap) (K : List Foot → Nat → Fr → Heap → Prop), Run P Γ ops l k fr H K →
    ∃ (kf : Nat → Nat) (frf : Nat → Fr) (Hf : Nat → Heap) (outf : Nat → Option Out), kf 0 = k ∧ frf 0 = fr ∧ Hf 0 = H ∧
      (∀ j o, l[j]? = some o → TStep P Γ ops o (kf j) (frf j) (Hf j) (outf j) (kf (j + 1)) (frf (j + 1)) (Hf (j + 1))) ∧
      ∃ tr : List Foot, tr.length = l.length ∧ (∀ j, j < l.length → tr[j]? = some (footOf (kf j) (kf (j + 1)) (outf j))) ∧ K tr (kf l.length) (frf l.length) (Hf l.length) := by
  intro l
  induction l with
  | nil => intro k fr H K h; exact ⟨fun _ => k, fun _ => fr, fun _ => H, fun _ => none, rfl, rfl, rfl, fun j o hj => by simp at hj, [], rfl, fun j hj => by simp at hj, h⟩
  | cons o r ih =>
    intro k fr H K h
    rcases h with ⟨hg, h⟩ | ⟨hg, out, hgood, h⟩
    · obtain ⟨kf, frf, Hf, outf, h1, h2, h3, h4, tr, h5, h6, h7⟩ := ih _ _ _ _ h
      refine ⟨fun j => match j with | 0 => k | j + 1 => kf j, fun j => match j with | 0 => fr | j + 1 => frf j, fun j => match j with | 0 => H | j + 1 => Hf j, fun j => match j with | 0 => none | j + 1 => outf j, rfl, rfl, rfl, fun j o' hj => ?_, ⟨[], [], k, k⟩ :: tr, by simp [h5], fun j hj => ?_, h7⟩
      · cases j with
        | zero => cases hj; exact ⟨hg, h1, h2, h3⟩
        | succ j => exact h4 j o' (by simpa using hj)
      · cases j with
        | zero => simp [footOf, h1]
        | succ j => exact h6 j (by simpa using hj)
    · obtain ⟨kf, frf, Hf, outf, h1, h2, h3, h4, tr, h5, h6, h7⟩ := ih _ _ _ _ h
      refine ⟨fun j => match j with | 0 => k | j + 1 => kf j, fun j => match j with | 0 => fr | j + 1 => frf j, fun j => match j with | 0 => H | j + 1 => Hf j, fun j => match j with | 0 => some out | j + 1 => outf j, rfl, rfl, rfl, fun j o' hj => ?_, ⟨out.rds, out.upd.map (·.1), k, out.k⟩ :: tr, by simp [h5], fun j hj => ?_, h7⟩
      · cases j with
        | zero => cases hj; exact ⟨hg, hgood, h1, h2, h3⟩
        | succ j => exact h4 j o' (by simpa using hj)
      · cases j with
        | zero => simp [footOf, h1]
        | succ j => exact h6 j (by simpa using hj)

/- The state behind a set D of operations. -/
structure Text (A0 : Allow) (P : Program) (Γ : List (Nat × List AVal)) (ops : Array Oper) (kf : Nat → Nat) (frf : Nat → Fr) (Hf : Nat → Heap) (outf : Nat → Option Out) : Prop where
  init : ∀ x, A0 x → x < kf 0
  step : ∀ j o, ops[j]? = some o → TStep P Γ ops o (kf j) (frf j) (Hf j) (outf j) (kf (j + 1)) (frf (j + 1)) (Hf (j + 1))
  low : ∀ i o e, ops[i]? = some o → e ∈ o.after → Region.binds .any e = true → e.on < i
  mods : ∀ i o out x, ops[i]? = some o → outf i = some out → x ∈ out.upd.map (·.1) → x < kf (i + 1)
  apart : ∀ i j oi oj, j < i → ops[i]? = some oi → ops[j]? = some oj → clash ops oj (footOf (kf j) (kf (j + 1)) (outf j)) oi (footOf (kf i) (kf (i + 1)) (outf i)) = true → Bef ops j i

variable {A0 : Allow} {ops : Array Oper} {kf : Nat → Nat} {frf : Nat → Fr} {Hf : Nat → Heap} {outf : Nat → Option Out}

def vals (outf : Nat → Option Out) (j : Nat) : AVal := match outf j with | some out => out.v | none => .lit undef
def newN (kf : Nat → Nat) (j x : Nat) : Prop := kf j ≤ x ∧ x < kf (j + 1)
def Apre (A0 : Allow) (ops : Array Oper) (kf : Nat → Nat) (i : Nat) : Allow := fun x => A0 x ∨ ∃ j, j < ops.size ∧ Bef ops j i ∧ newN kf j x
def Aop (A0 : Allow) (ops : Array Oper) (kf : Nat → Nat) (i : Nat) : Allow := fun x => Apre A0 ops kf i x ∨ newN kf i x
def dstAt (ops : Array Oper) (j : Nat) : Option Nat := (ops[j]?).bind (·.dst)
def modAt (outf : Nat → Option Out) (j id : Nat) : Option (Option Blk) := match outf j with | some out => modOf out.upd id | none => none

def frD (A0 : Allow) (ops : Array Oper) (kf : Nat → Nat) (fr0 : Fr) (outf : Nat → Option Out) (D : Nat → Bool) : Nat → Nat → Option (AVal × Allow)
  | 0, t => (look fr0 t).map fun v => (v, A0)
  | m + 1, t => if D m = true ∧ dstAt ops m = some t then some (vals outf m, Aop A0 ops kf m) else frD A0 ops kf fr0 outf D m t
def HD (A0 : Allow) (ops : Array Oper) (kf : Nat → Nat) (H0 : Heap) (outf : Nat → Option Out) (D : Nat → Bool) : Nat → Owner
  | 0, id => ofHeap H0 A0 id
  | m + 1, id => if D m = true then (match modAt outf m id with | some x => x.map fun B => (B, Aop A0 ops kf m) | none => HD A0 ops kf H0 outf D m id) else HD A0 ops kf H0 outf D m id

theorem frD_congr {fr0 : Fr} {D D' : Nat → Bool} {t : Nat} : ∀ (m : Nat), (∀ j, j < m → dstAt ops j = some t → D j = D' j) → frD A0 ops kf fr0 outf D m t = frD A0 ops kf fr0 outf D' m t := by
  intro m
  induction m with
  | zero => intro _; rfl
  | succ m ih =>
    intro h
    simp only [frD]
    rw [ih (fun j hj => h j (by omega))]
    by_cases hd : dstAt ops m = some t
    · rw [h m (by omega) hd]
    · rw [if_neg (fun c => hd c.2), if_neg (fun c => hd c.2)]
theorem HD_congr {H0 : Heap} {D D' : Nat → Bool} {id : Nat} : ∀ (m : Nat), (∀ j, j < m → (modAt outf j id).isSome = true → D j = D' j) → HD A0 ops kf H0 outf D m id = HD A0 ops kf H0 outf D' m id := by
  intro m
  induction m with
  | zero => intro _; rfl
  | succ m ih =>
    intro h
    simp only [HD]
    rw [ih (fun j hj => h j (by omega))]
    cases hm : modAt outf m id with
    | none => simp
    | some x => rw [h m (by omega) (by rw [hm]; rfl)]
theorem frD_cut {fr0 : Fr} {t i : Nat} : ∀ (m : Nat), i ≤ m → frD A0 ops kf fr0 outf (fun j => decide (j < i)) m t = frD A0 ops kf fr0 outf (fun _ => true) i t := by
  intro m
  induction m with
  | zero => intro h; have : i = 0 := by omega
            subst this; rfl
  | succ m ih =>
    intro h
    by_cases he : i = m + 1
    · subst he; exact frD_congr _ (fun j hj _ => by simp; omega)
    · simp only [frD]
      rw [if_neg (by simp; omega)]
      exact ih (by omega)
theorem HD_cut {H0 : Heap} {id i : Nat} : ∀ (m : Nat), i ≤ m → HD A0 ops kf H0 outf (fun j => decide (j < i)) m id = HD A0 ops kf H0 outf (fun _ => true) i id := by
  intro m
  induction m with
  | zero => intro h; have : i = 0 := by omega
            subst this; rfl
  | succ m ih =>
    intro h
    by_cases he : i = m + 1
    · subst he; exact HD_congr _ (fun j hj _ => by simp; omega)
    · simp only [HD]
      rw [if_neg (by simp; omega)]
      exact ih (by omega)

theorem frD_text (T : Text A0 P Γ ops kf frf Hf outf) {t : Nat} : ∀ (i : Nat), i ≤ ops.size → (frD A0 ops kf (frf 0) outf (fun _ => true) i t).map (·.1) = look (frf i) t := by
  intro i
  induction i with
  | zero => intro _; simp only [frD]; cases look (frf 0) t <;> rfl
  | succ i ih =>
    intro hi
    have ho : ops[i]? = some ops[i] := Array.getElem?_eq_getElem (by omega)
    have hs := T.step i _ ho
    simp only [frD, true_and]
    have hd : dstAt ops i = (ops[i]).dst := by simp [dstAt, ho]
    unfold TStep at hs
    cases hout : outf i with
    | none =>
      rw [hout] at hs
      rw [hs.2.2.1, look_putO, hd]
      split
      · simp [vals, hout]
      · exact ih (by omega)
    | some out =>
      rw [hout] at hs
      rw [hs.2.2.2.1, look_putO, hd]
      split
      · simp [vals, hout]
      · exact ih (by omega)
theorem HD_text (T : Text A0 P Γ ops kf frf Hf outf) {id : Nat} : ∀ (i : Nat), i ≤ ops.size → (HD A0 ops kf (Hf 0) outf (fun _ => true) i id).map (·.1) = look (Hf i) id := by
  intro i
  induction i with
  | zero => intro _; simp only [HD, ofHeap]; cases look (Hf 0) id <;> rfl
  | succ i ih =>
    intro hi
    have ho : ops[i]? = some ops[i] := Array.getElem?_eq_getElem (by omega)
    have hs := T.step i _ ho
    simp only [HD, if_true]
    unfold TStep at hs
    cases hout : outf i with
    | none =>
      rw [hout] at hs
      rw [hs.2.2.2]
      simp only [modAt, hout]
      exact ih (by omega)
    | some out =>
      rw [hout] at hs
      rw [hs.2.2.2.2, look_updH]
      simp only [modAt, hout]
      cases hx : modOf out.upd id with
      | none => exact ih (by omega)
      | some x => cases x <;> rfl

theorem kf_mono (T : Text A0 P Γ ops kf frf Hf outf) : ∀ (j i : Nat), i ≤ j → j ≤ ops.size → kf i ≤ kf j := by
  intro j
  induction j with
  | zero => intro i h _; have : i = 0 := by omega
            subst this; exact Nat.le_refl _
  | succ j ih =>
    intro i h hj
    by_cases he : i = j + 1
    · subst he; exact Nat.le_refl _
    · have h1 := ih i (by omega) (by omega)
      have ho : ops[j]? = some ops[j] := Array.getElem?_eq_getElem (by omega)
      have hs := T.step j _ ho
      unfold TStep at hs
      cases hout : outf j with
      | none => rw [hout] at hs; rw [hs.2.1]; exact h1
      | some out => rw [hout] at hs; rw [hs.2.2.1]; exact Nat.le_trans h1 hs.2.1.le

theorem new_inj (T : Text A0 P Γ ops kf frf Hf outf) {i j x : Nat} (hi : i < ops.size) (hj : j < ops.size) (h1 : newN kf i x) (h2 : newN kf j x) : i = j := by
  rcases Nat.lt_trichotomy i j with h | h | h
  · have := kf_mono T j (i + 1) (by omega) (by omega); unfold newN at *; omega
  · exact h
  · have := kf_mono T i (j + 1) (by omega) (by omega); unfold newN at *; omega
theorem new_not_old (T : Text A0 P Γ ops kf frf Hf outf) {i x : Nat} (hi : i < ops.size) (h1 : newN kf i x) (h2 : A0 x) : False := by
  have h3 := T.init x h2
  have := kf_mono T i 0 (by omega) (by omega); unfold newN at *; omega

theorem Bef_lt (T : Text A0 P Γ ops kf frf Hf outf) {i j : Nat} (h : Bef ops j i) : j < i := by
  induction h with
  | edge ho he hb => exact T.low _ _ _ ho he hb
  | trans _ _ h1 h2 => omega

/-- What a slot or block may name, at the text's place i, if its last writer came before i. -/
theorem frD_allow {fr0 : Fr} {t i : Nat} (hb : ∀ j, j < i → dstAt ops j = some t → Bef ops j i) : ∀ (m : Nat), m ≤ i → i < ops.size → ∀ v A, frD A0 ops kf fr0 outf (fun _ => true) m t = some (v, A) → ∀ x, A x → Apre A0 ops kf i x := by
  intro m
  induction m with
  | zero =>
    intro _ _ v A h x hx
    simp only [frD, Option.map_eq_some_iff] at h
    obtain ⟨u, _, he⟩ := h
    cases he
    exact .inl hx
  | succ m ih =>
    intro hm hi v A h x hx
    simp only [frD, true_and] at h
    split at h
    · rename_i hd
      cases h
      have hbm := hb m (by omega) hd
      rcases hx with (hx | ⟨j, hj, hbj, hn⟩) | hx
      · exact .inl hx
      · exact .inr ⟨j, hj, .trans hbj hbm, hn⟩
      · exact .inr ⟨m, by omega, hbm, hx⟩
    · exact ih (by omega) hi v A h x hx
theorem HD_allow {H0 : Heap} {id i : Nat} (hb : ∀ j, j < i → (modAt outf j id).isSome = true → Bef ops j i) : ∀ (m : Nat), m ≤ i → i < ops.size → ∀ B A, HD A0 ops kf H0 outf (fun _ => true) m id = some (B, A) → ∀ x, A x → Apre A0 ops kf i x := by
  intro m
  induction m with
  | zero =>
    intro _ _ v A h x hx
    simp only [HD, ofHeap, Option.map_eq_some_iff] at h
    obtain ⟨u, _, he⟩ := h
    cases he
    exact .inl hx
  | succ m ih =>
    intro hm hi v A h x hx
    simp only [HD, if_true] at h
    cases hmod : modAt outf m id with
    | none => rw [hmod] at h; exact ih (by omega) hi v A h x hx
    | some y =>
      rw [hmod] at h
      simp only [Option.map_eq_some_iff] at h
      obtain ⟨B', _, he⟩ := h
      cases he
      have hbm := hb m (by omega) (by rw [hmod]; rfl)
      rcases hx with (hx | ⟨j, hj, hbj, hn⟩) | hx
      · exact .inl hx
      · exact .inr ⟨j, hj, .trans hbj hbm, hn⟩
      · exact .inr ⟨m, by omega, hbm, hx⟩

/-- No name that the operation i makes is known behind a set that lacks i and is closed. -/
theorem allow_old (T : Text A0 P Γ ops kf frf Hf outf) {D : Nat → Bool} (hD : ∀ j, D j = true → ∀ l, Bef ops l j → D l = true) {i : Nat} (hi : i < ops.size) (hDi : D i = false) {x : Nat} (hx : newN kf i x) {j : Nat} (hj : j < ops.size) (hDj : D j = true) : ¬ Aop A0 ops kf j x := by
  rintro ((h | ⟨l, hl, hb, hn⟩) | h)
  · exact new_not_old T hi hx h
  · have := new_inj T hi hl hx hn
    subst this
    rw [hD j hDj _ hb] at hDi; cases hDi
  · have := new_inj T hi hj hx h
    subst this
    rw [hDj] at hDi; cases hDi
theorem frD_old (T : Text A0 P Γ ops kf frf Hf outf) {fr0 : Fr} {D : Nat → Bool} (hD : ∀ j, D j = true → ∀ l, Bef ops l j → D l = true) {i : Nat} (hi : i < ops.size) (hDi : D i = false) {x : Nat} (hx : newN kf i x) {t : Nat} :
    ∀ (m : Nat), m ≤ ops.size → ∀ v A, frD A0 ops kf fr0 outf D m t = some (v, A) → ¬ A x := by
  intro m
  induction m with
  | zero =>
    intro _ v A h hA
    simp only [frD, Option.map_eq_some_iff] at h
    obtain ⟨u, _, he⟩ := h
    cases he
    exact new_not_old T hi hx hA
  | succ m ih =>
    intro hm v A h
    simp only [frD] at h
    split at h
    · rename_i hd; cases h; exact allow_old T hD hi hDi hx (by omega) hd.1
    · exact ih (by omega) v A h
theorem HD_old (T : Text A0 P Γ ops kf frf Hf outf) {H0 : Heap} {D : Nat → Bool} (hD : ∀ j, D j = true → ∀ l, Bef ops l j → D l = true) {i : Nat} (hi : i < ops.size) (hDi : D i = false) {x : Nat} (hx : newN kf i x) {id : Nat} :
    ∀ (m : Nat), m ≤ ops.size → ∀ B A, HD A0 ops kf H0 outf D m id = some (B, A) → ¬ A x := by
  intro m
  induction m with
  | zero =>
    intro _ v A h hA
    simp only [HD, ofHeap, Option.map_eq_some_iff] at h
    obtain ⟨u, _, he⟩ := h
    cases he
    exact new_not_old T hi hx hA
  | succ m ih =>
    intro hm v A h
    simp only [HD] at h
    split at h
    · rename_i hd
      cases hmod : modAt outf m id with
      | none => rw [hmod] at h; exact ih (by omega) v A h
      | some y =>
        rw [hmod] at h
        simp only [Option.map_eq_some_iff] at h
        obtain ⟨B', _, he⟩ := h
        cases he
        exact allow_old T hD hi hDi hx (by omega) hd
    · exact ih (by omega) v A h

theorem frD_set {fr0 : Fr} {D : Nat → Bool} {i t : Nat} (hn : dstAt ops i = some t → ∀ j, i < j → D j = true → dstAt ops j ≠ some t) : ∀ (m : Nat), i < m →
    frD A0 ops kf fr0 outf (fun j => if j = i then true else D j) m t = if dstAt ops i = some t then some (vals outf i, Aop A0 ops kf i) else frD A0 ops kf fr0 outf D m t := by
  intro m
  induction m with
  | zero => intro h; omega
  | succ m ih =>
    intro h
    by_cases he : m = i
    · subst he
      simp only [frD, if_true, true_and]
      by_cases hd : dstAt ops m = some t
      · rw [if_pos hd, if_pos hd]
      · rw [if_neg hd, if_neg hd, if_neg (fun c => hd c.2)]
        exact frD_congr _ (fun j hj _ => by rw [if_neg (by omega)])
    · simp only [frD, if_neg he]
      rw [ih (by omega)]
      by_cases hd : dstAt ops i = some t
      · rw [if_pos hd, if_pos hd]
        split
        · rename_i hc; exact absurd hc.2 (hn hd m (by omega) hc.1)
        · rfl
      · rw [if_neg hd, if_neg hd]

theorem HD_set {H0 : Heap} {D : Nat → Bool} {i id : Nat} (hn : (modAt outf i id).isSome = true → ∀ j, i < j → D j = true → modAt outf j id = none) (hDi : D i = false) : ∀ (m : Nat), i < m →
    HD A0 ops kf H0 outf (fun j => if j = i then true else D j) m id = match modAt outf i id with | some x => x.map fun B => (B, Aop A0 ops kf i) | none => HD A0 ops kf H0 outf D m id := by
  intro m
  induction m with
  | zero => intro h; omega
  | succ m ih =>
    intro h
    by_cases he : m = i
    · subst he
      simp only [HD, if_true]
      have hc : HD A0 ops kf H0 outf (fun j => if j = m then true else D j) m id = HD A0 ops kf H0 outf D m id := HD_congr _ (fun j hj _ => by rw [if_neg (by omega)])
      rw [hc, if_neg (by rw [hDi]; simp)]
    · simp only [HD, if_neg he]
      rw [ih (by omega)]
      cases hm : modAt outf i id with
      | none => rfl
      | some x =>
        simp only
        split
        · rename_i hDm
          rw [hn (by rw [hm]; rfl) m (by omega) hDm]
        · rfl

def closed (ops : Array Oper) (D : Nat → Bool) : Prop := ∀ j, D j = true → ∀ l, Bef ops l j → D l = true

theorem closed_of_edges {D : Nat → Bool} (h : ∀ i o e, D i = true → ops[i]? = some o → e ∈ o.after → Region.binds .any e = true → D e.on = true) : closed ops D := by
  intro j hj l hb
  induction hb with
  | edge ho he hb => exact h _ _ _ hj ho he hb
  | trans h1 h2 ih1 ih2 => exact ih1 (ih2 hj)
theorem ready_bef {D : Nat → Bool} (hc : closed ops D) {i : Nat} {o : Oper} (ho : ops[i]? = some o) (hr : ∀ e, e ∈ o.after → Region.binds .any e = true → D e.on = true) : ∀ {l}, Bef ops l i → D l = true := by
  intro l hb
  have key : ∀ {a b}, Bef ops a b → b = i → D a = true := by
    intro a b hb
    induction hb with
    | edge ho' he hb' => intro h; subst h; rw [ho] at ho'; cases ho'; exact hr _ he hb'
    | trans h1 h2 ih1 ih2 => intro h; exact hc _ (ih2 h) _ h1
  exact key hb rfl

/-- What holds behind a set of operations. -/
structure DInv (A0 : Allow) (Γ : List (Nat × List AVal)) (nt : Nat) (ops : Array Oper) (kf : Nat → Nat) (fr0 : Fr) (H0 : Heap) (outf : Nat → Option Out) (D : Nat → Bool) (w : World) (G : Nat → Prop) (ρ : Names) (a : Act) : Prop where
  rel : HRel Γ w G ρ (HD A0 ops kf H0 outf D ops.size)
  size : a.tmps.size = nt
  defers : a.defers = []
  frm : ∀ t v A, frD A0 ops kf fr0 outf D ops.size t = some (v, A) → V w G ρ A v (a.tmps.getD t undef)

theorem foot_rds {i : Nat} {out : Out} (h : outf i = some out) : (footOf (kf i) (kf (i + 1)) (outf i)).rds = out.rds := by rw [h]; rfl
theorem foot_mods {i : Nat} {out : Out} (h : outf i = some out) : (footOf (kf i) (kf (i + 1)) (outf i)).mods = out.upd.map (·.1) := by rw [h]; rfl
theorem mod_mem : ∀ {upd : List (Nat × Option Blk)} {id : Nat}, (modOf upd id).isSome = true → id ∈ upd.map (·.1)
  | [], id, h => by simp [modOf, look] at h
  | (i, x) :: r, id, h => by
    simp only [modOf, look] at h
    split at h
    · rename_i he; simp [he]
    · simp only [List.map_cons, List.mem_cons]; exact .inr (mod_mem h)
theorem modAt_foot {j id : Nat} (h : (modAt outf j id).isSome = true) : id ∈ (footOf (kf j) (kf (j + 1)) (outf j)).mods := by
  unfold modAt at h
  cases hout : outf j with
  | none => rw [hout] at h; simp at h
  | some out => rw [hout] at h; exact mod_mem h
theorem dstL_mem {o : Oper} {t : Nat} (h : o.dst = some t) : t ∈ dstL o := by simp [dstL, h]

theorem clash_of_slot {oj oi : Oper} {fj fi : Foot} {t : Nat} (h1 : oj.dst = some t) (h2 : t ∈ readsOf ops oi) : clash ops oj fj oi fi = true := by
  cases hc : clash ops oj fj oi fi with
  | true => rfl
  | false => simp only [clash, Bool.or_eq_false_iff] at hc; exact (meets_no hc.1.1.1.1.1 (dstL_mem h1) h2).elim
theorem clash_of_slot' {oj oi : Oper} {fj fi : Foot} {t : Nat} (h1 : t ∈ readsOf ops oj) (h2 : oi.dst = some t) : clash ops oj fj oi fi = true := by
  cases hc : clash ops oj fj oi fi with
  | true => rfl
  | false => simp only [clash, Bool.or_eq_false_iff] at hc; exact (meets_no hc.1.1.1.2 (dstL_mem h2) h1).elim
theorem clash_of_dst {oj oi : Oper} {fj fi : Foot} {t : Nat} (h1 : oj.dst = some t) (h2 : oi.dst = some t) : clash ops oj fj oi fi = true := by
  cases hc : clash ops oj fj oi fi with
  | true => rfl
  | false => simp only [clash, Bool.or_eq_false_iff] at hc; exact (meets_no hc.1.1.1.1.2 (dstL_mem h1) (dstL_mem h2)).elim
theorem clash_of_mod {oj oi : Oper} {fj fi : Foot} {x : Nat} (h1 : x ∈ fj.mods) (h2 : x ∈ fi.rds ∨ x ∈ fi.mods) : clash ops oj fj oi fi = true := by
  cases hc : clash ops oj fj oi fi with
  | true => rfl
  | false =>
    simp only [clash, Bool.or_eq_false_iff] at hc
    rcases h2 with h2 | h2
    · exact (meets_no hc.1.1.2 h1 h2).elim
    · exact (meets_no hc.1.2 h1 h2).elim
theorem clash_of_mod' {oj oi : Oper} {fj fi : Foot} {x : Nat} (h1 : x ∈ fj.rds) (h2 : x ∈ fi.mods) : clash ops oj fj oi fi = true := by
  cases hc : clash ops oj fj oi fi with
  | true => rfl
  | false => simp only [clash, Bool.or_eq_false_iff] at hc; exact (meets_no hc.2 h1 h2).elim

/-- One operation, wherever it comes. -/
theorem draw_step (T : Text A0 P Γ ops kf frf Hf outf) (hd : dstOk nt ops = true) {D : Nat → Bool} (hDs : ∀ j, D j = true → j < ops.size) (hc : closed ops D) {i : Nat} {o : Oper} (ho : ops[i]? = some o) (hDi : D i = false)
    (hr : ∀ e, e ∈ o.after → Region.binds .any e = true → D e.on = true) {w : World} {G : Nat → Prop} {ρ : Names} {a : Act} (hinv : DInv A0 Γ nt ops kf (frf 0) (Hf 0) outf D w G ρ a)
    {K : Act → World → Prop} {Q' : Exit → Act → World → Prop} (hK : ∀ w' G' ρ' a', DInv A0 Γ nt ops kf (frf 0) (Hf 0) outf (fun j => if j = i then true else D j) w' G' ρ' a' → Step (below (kf 0)) w G ρ w' G' ρ' → K a' w') : wpOp P ops Q' i K a w := by
  have hi : i < ops.size := by have := (Array.getElem?_eq_some_iff.1 ho).1; exact this
  have hpre : ∀ {l}, Bef ops l i → D l = true := ready_bef hc ho hr
  have hdsti : dstAt ops i = o.dst := by simp [dstAt, ho]
  have opAt : ∀ j t, dstAt ops j = some t → ∃ oj, ops[j]? = some oj ∧ oj.dst = some t := fun j t h => by
    obtain ⟨oj, h1, h2⟩ := Option.bind_eq_some_iff.1 h; exact ⟨oj, h1, h2⟩
  -- a slot that the operation reads
  have hslotD : ∀ t, t ∈ readsOf ops o → (∀ j, j < i → dstAt ops j = some t → Bef ops j i) ∧ (∀ j, dstAt ops j = some t → D j = decide (j < i)) := fun t ht => by
    have h1 : ∀ j, j < i → dstAt ops j = some t → Bef ops j i := fun j hj hdj => by
      obtain ⟨oj, h2, h3⟩ := opAt j t hdj
      exact T.apart i j o oj hj ho h2 (clash_of_slot h3 ht)
    refine ⟨h1, fun j hdj => ?_⟩
    obtain ⟨oj, h2, h3⟩ := opAt j t hdj
    rcases Nat.lt_trichotomy j i with h | h | h
    · rw [hpre (h1 j h hdj)]; simp [h]
    · rw [h, hDi]; simp
    · have hb := T.apart j i oj o h h2 ho (clash_of_slot' ht h3)
      cases hDj : D j with
      | false => simp; omega
      | true => rw [hc j hDj _ hb] at hDi; cases hDi
  have hslot : ∀ t, t ∈ readsOf ops o → ∀ v, look (frf i) t = some v → V w G ρ (Apre A0 ops kf i) v (a.tmps.getD t undef) := fun t ht v hv => by
    obtain ⟨h1, h2⟩ := hslotD t ht
    have h3 := frD_text T (t := t) i (by omega)
    rw [hv] at h3
    simp only [Option.map_eq_some_iff] at h3
    obtain ⟨⟨v', A⟩, h4, h5⟩ := h3
    simp only at h5; subst h5
    have h6 : frD A0 ops kf (frf 0) outf D ops.size t = some (v', A) := by
      rw [frD_congr (D' := fun j => decide (j < i)) ops.size (fun j _ hdj => h2 j hdj), frD_cut ops.size (by omega)]; exact h4
    exact (hinv.frm t v' A h6).mono (fun _ h => h) (fun _ _ => rfl) (fun _ _ => rfl) (frD_allow h1 i (Nat.le_refl _) hi v' A h4) (fun _ _ => .inr rfl)
  have hguard : ∀ b, guardOf ops (frf i) o = some b → Region.wanted o (yielded ops a.tmps) = b := fun b hb =>
    guard_wanted hd hinv.size (fun j want hg t ht c hcl => by
      have := hslot t (by unfold readsOf; rw [hg]; simp [ht]) _ hcl
      exact V_bool this) hb
  have hs := T.step i o ho
  unfold TStep at hs
  have hdst := dstOk_spec hd ho
  -- slots that the operation leaves
  have hdn : ∀ t, dstAt ops i = some t → ∀ j, i < j → D j = true → dstAt ops j ≠ some t := fun t ht j hj hDj hdj => by
    obtain ⟨oj, h2, h3⟩ := opAt j t hdj
    rw [hdsti] at ht
    have hb := T.apart j i oj o hj h2 ho (clash_of_dst ht h3)
    rw [hc j hDj _ hb] at hDi; cases hDi
  unfold wpOp
  rw [ho]
  cases hout : outf i with
  | none =>
    rw [hout] at hs
    obtain ⟨hg, hk, hfr, hH⟩ := hs
    simp only [hguard _ hg, Bool.false_eq_true, if_false]
    refine hK w G ρ (a.put o.dst undef) ⟨?_, by rw [put_size]; exact hinv.size, by rw [put_defers]; exact hinv.defers, fun t v A hv => ?_⟩ (Step.refl _ _ _ _)
    · have : HD A0 ops kf (Hf 0) outf (fun j => if j = i then true else D j) ops.size = HD A0 ops kf (Hf 0) outf D ops.size := funext fun id => by
        rw [HD_set (fun h => by simp [modAt, hout] at h) hDi ops.size hi]
        simp [modAt, hout]
      rw [this]; exact hinv.rel
    · rw [frD_set (hdn t) ops.size hi] at hv
      rw [put_getD a o.dst undef t (fun x hx => by rw [hinv.size]; exact hdst x hx)]
      rw [hdsti] at hv
      split at hv
      · rename_i he; cases hv; rw [if_pos he]; simp only [vals, hout]; exact .lit
      · rename_i hne; rw [if_neg hne]; exact hinv.frm t v A hv
  | some out =>
    rw [hout] at hs
    obtain ⟨hg, hgood, hk, hfr, hH⟩ := hs
    simp only [hguard _ hg, if_true]
    left
    have hnew : ∀ x, (kf i ≤ x ∧ x < out.k) ↔ newN kf i x := fun x => by unfold newN; rw [hk]
    have hmod1 : ∀ id, (modAt outf i id).isSome = true → ∀ j, i < j → D j = true → modAt outf j id = none := fun id h j hj hDj => by
      cases hm : modAt outf j id with
      | none => rfl
      | some x =>
        have hj' := hDs j hDj
        have hb := T.apart j i _ o hj (Array.getElem?_eq_getElem hj') ho (clash_of_mod (modAt_foot h) (.inr (modAt_foot (by rw [hm]; rfl))))
        rw [hc j hDj _ hb] at hDi; cases hDi
    refine hgood.ok w G ρ (HD A0 ops kf (Hf 0) outf D ops.size) (Apre A0 ops kf i) a hinv.rel (fun x hx => ?_) (fun x h1 h2 => ?_) (fun id hid => ?_) (fun x hx v hv => ?_) K Q' (fun w' G' ρ' cv hrel hv hst => ?_)
    · -- names known before are below
      rcases hx with hx | ⟨j, hj, hb, hnj⟩
      · have h1 := T.init x hx
        have h2 := kf_mono T i 0 (by omega) (by omega)
        omega
      · have h1 := Bef_lt T hb
        have h2 := kf_mono T i (j + 1) (by omega) (by omega)
        unfold newN at hnj
        omega
    · have hn := (hnew x).1 ⟨h1, h2⟩
      have hold : ∀ id B A, HD A0 ops kf (Hf 0) outf D ops.size id = some (B, A) → ¬ A x := fun id B A h => HD_old T hc hi hDi hn ops.size (Nat.le_refl _) B A h
      refine ⟨?_, hold⟩
      cases hH : HD A0 ops kf (Hf 0) outf D ops.size x with
      | none => exact hinv.rel.dom x hH
      | some y =>
        obtain ⟨B, A⟩ := y
        exact absurd (hinv.rel.blk x B A hH).1 (hold x B A hH)
    · -- what is read
      obtain ⟨B, hB⟩ := Option.isSome_iff_exists.1 (hgood.rds id hid)
      have h1 : ∀ j, j < i → (modAt outf j id).isSome = true → Bef ops j i := fun j hj hm =>
        T.apart i j o _ hj ho (Array.getElem?_eq_getElem (by omega)) (clash_of_mod (modAt_foot hm) (.inl (by rw [foot_rds hout]; exact hid)))
      have h2 : ∀ j, j < ops.size → (modAt outf j id).isSome = true → D j = decide (j < i) := fun j hj hm => by
        rcases Nat.lt_trichotomy j i with h | h | h
        · rw [hpre (h1 j h hm)]; simp [h]
        · rw [h, hDi]; simp
        · have hb := T.apart j i _ o h (Array.getElem?_eq_getElem hj) ho (clash_of_mod' (by rw [foot_rds hout]; exact hid) (modAt_foot hm))
          cases hDj : D j with
          | false => simp; omega
          | true => rw [hc j hDj _ hb] at hDi; cases hDi
      have h3 := HD_text T (id := id) i (by omega)
      rw [hB] at h3
      simp only [Option.map_eq_some_iff] at h3
      obtain ⟨⟨B', A⟩, h4, h5⟩ := h3
      simp only at h5; subst h5
      refine ⟨B', A, hB, ?_, HD_allow h1 i (Nat.le_refl _) hi B' A h4⟩
      rw [HD_congr (D' := fun j => decide (j < i)) ops.size (fun j hj hm => h2 j hj hm), HD_cut ops.size (by omega)]; exact h4
    · cases x with
      | tmp t => exact hslot t (by unfold readsOf; simp only [List.mem_append, List.mem_filterMap]; exact .inl ⟨.tmp t, by simpa using hx, rfl⟩) v hv
      | const c => cases hv; exact .lit
      | global g =>
        simp only [aeval, Option.map_eq_some_iff] at hv
        obtain ⟨cells, hl, rfl⟩ := hv
        exact (hinv.rel.glob g cells hl).weaken
      | func f => cases hv; exact .fn rfl (fun j v hj => by simp at hj)
    · have hA : (fun x => Apre A0 ops kf i x ∨ (kf i ≤ x ∧ x < out.k)) = Aop A0 ops kf i := funext fun x => by simp only [Aop, newN, hk]
      rw [hA] at hrel hv
      have hS : ∀ x A, ¬ A → (A → ¬ (kf i ≤ x ∧ x < out.k)) := fun x A h1 h2 => absurd h2 h1
      refine hK w' G' ρ' (a.put o.dst cv) ⟨?_, by rw [put_size]; exact hinv.size, by rw [put_defers]; exact hinv.defers, fun t v A hv' => ?_⟩ ?_
      · have : HD A0 ops kf (Hf 0) outf (fun j => if j = i then true else D j) ops.size = updO (HD A0 ops kf (Hf 0) outf D ops.size) (Aop A0 ops kf i) out.upd := funext fun id => by
          rw [HD_set (hmod1 id) hDi ops.size hi, updO_modOf]
          simp only [modAt, hout]
          cases modOf out.upd id <;> rfl
        rw [this]; exact hrel
      · rw [frD_set (hdn t) ops.size hi] at hv'
        rw [put_getD a o.dst cv t (fun x hx => by rw [hinv.size]; exact hdst x hx)]
        rw [hdsti] at hv'
        split at hv'
        · rename_i he; cases hv'; rw [if_pos he]; simp only [vals, hout]; exact hv
        · rename_i hne; rw [if_neg hne]
          exact (hinv.frm t v A hv').step hinv.rel hst (fun x hx hn => frD_old T hc hi hDi ((hnew x).1 hn) ops.size (Nat.le_refl _) v A hv' hx) (fun _ h => h)
      · exact ⟨hst.size, hst.keep, hst.shape, hst.g, hst.g', hst.own, fun x hx => hst.ids x (fun hn => by have h2 := kf_mono T i 0 (by omega) (by omega); simp only [below] at hx; omega), hst.os, hst.tape, hst.output⟩
end
end Go.AM
end

section
/-
  The abstract machine, part 11: a region that draws its order, whole; calls; a function's contract out of its body.
-/
namespace Go.AM
section
variable {P : Program} {Γ : List (Nat × List AVal)} {nt kb : Nat} {Q : AQ} {k : Nat} {fr : Fr} {H : Heap}
variable {A0 : Allow} {ops : Array Oper} {kf : Nat → Nat} {frf : Nat → Fr} {Hf : Nat → Heap} {outf : Nat → Option Out}

theorem count_lt {p p' : Nat → Bool} : ∀ (l : List Nat) (x : Nat), (∀ y, p' y = true → p y = true) → x ∈ l → p x = true → p' x = false → l.countP p' < l.countP p
  | [], x, _, h, _, _ => by simp at h
  | y :: r, x, hp, h, h1, h2 => by
    have hle : r.countP p' ≤ r.countP p := List.countP_mono_left (fun z _ hz => hp z hz)
    rw [List.countP_cons, List.countP_cons]
    rcases List.mem_cons.1 h with rfl | h
    · rw [h1, h2]; simp; omega
    · have ih := count_lt r x hp h h1 h2
      cases hy : p' y with
      | true => rw [hp y hy]; simp; exact ih
      | false => simp; omega

def unlisted (ops : Array Oper) (listed : Array Bool) : Nat := (List.range ops.size).countP fun j => !listed.getD j false

theorem draw_any (T : Text A0 P Γ ops kf frf Hf outf) (hd : dstOk nt ops = true) {w0 : World} {G0 : Nat → Prop} {ρ0 : Names} {Q' : Exit → Act → World → Prop}
    (hQ : ∀ w G ρ a, DInv A0 Γ nt ops kf (frf 0) (Hf 0) outf (fun j => decide (j < ops.size)) w G ρ a → Step (below (kf 0)) w0 G0 ρ0 w G ρ → Q' .normal a w) :
    ∀ (fuel : Nat) (listed : Array Bool) (w : World) (G : Nat → Prop) (ρ : Names) (a : Act), listed.size = ops.size → unlisted ops listed ≤ fuel →
      (∀ i o e, listed.getD i false = true → ops[i]? = some o → e ∈ o.after → Region.binds .any e = true → listed.getD e.on false = true) →
      DInv A0 Γ nt ops kf (frf 0) (Hf 0) outf (fun j => listed.getD j false) w G ρ a → Step (below (kf 0)) w0 G0 ρ0 w G ρ → wpAny P .any ops Q' fuel listed a w := by
  have hall : ∀ (listed : Array Bool), listed.size = ops.size → Region.ready .any ops listed = [] → ∀ j, j < ops.size → listed.getD j false = true := by
    intro listed hsz hr j
    induction j using Nat.strongRecOn with
    | _ j ih =>
      intro hj
      cases hl : listed.getD j false with
      | true => rfl
      | false =>
        have hmem : j ∈ Region.ready .any ops listed := by
          unfold Region.ready
          rw [List.mem_filter]
          refine ⟨List.mem_range.2 hj, ?_⟩
          have ho : ops[j]? = some ops[j] := Array.getElem?_eq_getElem hj
          have h1 : listed.getD j true = false := by
            rw [Array.getD_eq_getD_getElem?, Array.getElem?_eq_getElem (by omega)] at hl ⊢
            simpa using hl
          rw [h1, ho]
          simp only [Option.map_some, Option.getD_some, Bool.not_false, Bool.true_and]
          rw [Array.all_eq_true']
          intro e he
          by_cases hb : Region.binds .any e = true
          · have hlt := T.low j _ e ho he hb
            rw [ih e.on hlt (by omega)]; simp
          · simp [hb]
        rw [hr] at hmem; simp at hmem
  have hend : ∀ (listed : Array Bool) w G ρ a, listed.size = ops.size → DInv A0 Γ nt ops kf (frf 0) (Hf 0) outf (fun j => listed.getD j false) w G ρ a → Step (below (kf 0)) w0 G0 ρ0 w G ρ →
      Region.ready .any ops listed = [] → Q' .normal a w := by
    intro listed w G ρ a hsz hinv hst hr
    have hl := hall listed hsz hr
    have he : (fun j => listed.getD j false) = fun j => decide (j < ops.size) := funext fun j => by
      by_cases hj : j < ops.size
      · rw [hl j hj]; simp [hj]
      · rw [Array.getD_eq_getD_getElem?, Array.getElem?_eq_none (by omega)]; simp; omega
    rw [he] at hinv
    exact hQ w G ρ a hinv hst
  intro fuel
  induction fuel with
  | zero =>
    intro listed w G ρ a hsz hcnt hed hinv hst
    have hr : Region.ready .any ops listed = [] := by
      rw [List.eq_nil_iff_forall_not_mem]
      intro i hi
      unfold Region.ready at hi
      rw [List.mem_filter] at hi
      obtain ⟨h1, h2⟩ := hi
      simp only [Bool.and_eq_true, Bool.not_eq_true'] at h2
      have hlt := List.mem_range.1 h1
      have h3 : listed.getD i false = false := by
        have h4 := h2.1
        rw [Array.getD_eq_getD_getElem?, Array.getElem?_eq_getElem (by omega)] at h4 ⊢
        simpa using h4
      have h5 : 0 < unlisted ops listed := by
        unfold unlisted
        rw [List.countP_pos_iff]
        exact ⟨i, h1, by rw [h3]; rfl⟩
      omega
    exact ⟨hr, hend listed w G ρ a hsz hinv hst hr⟩
  | succ fuel ih =>
    intro listed w G ρ a hsz hcnt hed hinv hst
    refine ⟨hend listed w G ρ a hsz hinv hst, fun i hi => ?_⟩
    unfold Region.ready at hi
    rw [List.mem_filter] at hi
    obtain ⟨h1, h2⟩ := hi
    have hlt := List.mem_range.1 h1
    have ho : ops[i]? = some ops[i] := Array.getElem?_eq_getElem hlt
    rw [ho] at h2
    simp only [Option.map_some, Option.getD_some, Bool.and_eq_true, Bool.not_eq_true'] at h2
    have h3 : listed.getD i false = false := by
      have h4 := h2.1
      rw [Array.getD_eq_getD_getElem?, Array.getElem?_eq_getElem (by omega)] at h4 ⊢
      simpa using h4
    have hrdy : ∀ e, e ∈ (ops[i]).after → Region.binds .any e = true → listed.getD e.on false = true := fun e he hb => by
      have := Array.all_eq_true'.1 h2.2 e he
      simpa [hb] using this
    have hset : (fun j => (listed.setIfInBounds i true).getD j false) = fun j => if j = i then true else listed.getD j false := funext fun j => by
      by_cases hj : j = i
      · subst hj
        rw [if_pos rfl, Array.getD_eq_getD_getElem?, Array.getElem?_setIfInBounds_self_of_lt (by omega)]; rfl
      · rw [if_neg hj, Array.getD_eq_getD_getElem?, Array.getElem?_setIfInBounds_ne (fun e => hj e.symm), ← Array.getD_eq_getD_getElem?]
    refine draw_step T hd (D := fun j => listed.getD j false) (fun j hj => ?_) (closed_of_edges hed) ho h3 hrdy hinv (fun w' G' ρ' a' hinv' hst' => ?_)
    · by_cases hjl : j < ops.size
      · exact hjl
      · rw [Array.getD_eq_getD_getElem?, Array.getElem?_eq_none (by omega)] at hj; simp at hj
    · refine ih (listed.setIfInBounds i true) w' G' ρ' a' (by simp [hsz]) ?_ ?_ (by rw [hset]; exact hinv') (hst.trans hst' (fun _ h => h))
      · have hlt' : unlisted ops (listed.setIfInBounds i true) < unlisted ops listed := by
          unfold unlisted
          refine count_lt (List.range ops.size) i (fun y hy => ?_) h1 (by rw [h3]; rfl) (by rw [congrFun hset i]; simp)
          have := congrFun hset y
          rw [this] at hy
          by_cases hyi : y = i
          · rw [if_pos hyi] at hy; simp at hy
          · rw [if_neg hyi] at hy; exact hy
        omega
      · intro j oj e hj hoj he hb
        have e1 := congrFun hset j
        have e2 := congrFun hset e.on
        rw [e2]
        rw [e1] at hj
        by_cases hji : j = i
        · subst hji
          rw [ho] at hoj; cases hoj
          by_cases hei : e.on = j
          · rw [if_pos hei]
          · rw [if_neg hei]; exact hrdy e he hb
        · rw [if_neg hji] at hj
          by_cases hei : e.on = i
          · rw [if_pos hei]
          · rw [if_neg hei]; exact hed j oj e hj hoj he hb

/-- A region that draws its order. -/
theorem W_draw {id : Nat} (hm : P.follows .mixedOrders = true) (hd : dstOk nt ops = true) (h : Run P Γ ops ops.toList k fr H (fun tr k' fr' H' => drawOk ops tr = true ∧ (kb ≤ k' → Q .normal k' fr' H'))) :
    W P Γ nt kb (.region id ops true) Q k fr H := fun C0 hC0 hk w G ρ a hi => by
  obtain ⟨A0, hA0e⟩ : ∃ A0, A0 = alw C0 kb k := ⟨_, rfl⟩
  have hlt0 := alw_lt (A0 := C0) hC0 hk
  obtain ⟨kf, frf, Hf, outf, h1, h2, h3, h4, tr, h5, h6, h7, h8⟩ := run_text (P := P) (Γ := Γ) (ops := ops) ops.toList k fr H _ h
  rw [Array.length_toList] at h5 h8
  have hstep : ∀ j o, ops[j]? = some o → TStep P Γ ops o (kf j) (frf j) (Hf j) (outf j) (kf (j + 1)) (frf (j + 1)) (Hf (j + 1)) := fun j o hj => h4 j o (by rw [Array.getElem?_toList]; exact hj)
  have hfoot : ∀ j, j < ops.size → tr[j]? = some (footOf (kf j) (kf (j + 1)) (outf j)) := fun j hj => h6 j (by simpa using hj)
  have hrow : ∀ i oi, ops[i]? = some oi → (oi.after.toList.all fun e => !Region.binds .any e || decide (e.on < i)) = true ∧ ((footOf (kf i) (kf (i + 1)) (outf i)).mods.all fun x => decide (x < kf (i + 1))) = true ∧
      ∀ j oj, j < i → ops[j]? = some oj → clash ops oj (footOf (kf j) (kf (j + 1)) (outf j)) oi (footOf (kf i) (kf (i + 1)) (outf i)) = true → befB ops ops.size j i = true := fun i oi hoi => by
    have hlt := (Array.getElem?_eq_some_iff.1 hoi).1
    have := List.all_eq_true.1 h7 i (List.mem_range.2 hlt)
    rw [hoi, hfoot i hlt] at this
    simp only [Bool.and_eq_true] at this
    obtain ⟨⟨t1, t2⟩, t3⟩ := this
    refine ⟨t1, ?_, fun j oj hj hoj hcl => ?_⟩
    · cases hout : outf i with
      | none => simp [footOf]
      | some out => rw [hout] at t2; exact t2
    · have t4 := List.all_eq_true.1 t3 j (List.mem_range.2 hj)
      rw [hoj, hfoot j (by omega)] at t4
      simp only [Bool.or_eq_true, Bool.not_eq_true'] at t4
      rcases t4 with t4 | t4
      · rw [hcl] at t4; cases t4
      · exact t4
  have T : Text A0 P Γ ops kf frf Hf outf := {
    init := fun x hx => by rw [hA0e] at hx; rw [h1]; exact hlt0 x hx
    step := hstep
    low := fun i o e ho he hb => by
      have := List.all_eq_true.1 (hrow i o ho).1 e (by simpa using he)
      simpa [hb] using this
    mods := fun i o out x ho hout hx => by
      have := List.all_eq_true.1 (hrow i o ho).2.1 x (by rw [foot_mods hout]; exact hx)
      simpa using this
    apart := fun i j oi oj hj hoi hoj hcl => befB_spec _ _ _ ((hrow i oi hoi).2.2 j oj hj hoj hcl) }
  refine wp_region_any hm ?_
  have hrep : ∀ j, (Array.replicate ops.size false).getD j false = false := fun j => by
    rw [Array.getD_eq_getD_getElem?, Array.getElem?_replicate]; split <;> rfl
  have hemptyF : ∀ m t, frD A0 ops kf (frf 0) outf (fun j => (Array.replicate ops.size false).getD j false) m t = (look (frf 0) t).map fun v => (v, A0) := fun m t => by
    induction m with
    | zero => rfl
    | succ m ih => simp only [frD]; rw [if_neg (by rw [hrep]; simp)]; exact ih
  have hemptyH : ∀ m id, HD A0 ops kf (Hf 0) outf (fun j => (Array.replicate ops.size false).getD j false) m id = ofHeap (Hf 0) A0 id := fun m id => by
    induction m with
    | zero => rfl
    | succ m ih => simp only [HD]; rw [if_neg (by rw [hrep]; simp)]; exact ih
  refine draw_any T hd (w0 := w) (G0 := G) (ρ0 := ρ) (Q' := Post Γ nt C0 kb w G ρ Q) (fun w' G' ρ' a' hinv hst => ?_) ops.size _ { w with drawn := w.drawn + 1 } G ρ a (by simp) ?_ (fun i o e hl => by rw [hrep] at hl; cases hl) ⟨?_, hi.size, hi.defers, fun t v A hv => ?_⟩ (step_same _ rfl rfl rfl rfl)
  · -- all are done
    have hkn : kb ≤ kf ops.size := Nat.le_trans (by rw [h1]; exact hk) (kf_mono T ops.size 0 (by omega) (Nat.le_refl _))
    have hold : ∀ x, A0 x → alw C0 kb (kf ops.size) x := fun x hx => by
      have h0 := kf_mono T ops.size 0 (by omega) (Nat.le_refl _)
      rw [hA0e] at hx
      rcases hx with hx | hx
      · exact .inl hx
      · exact .inr ⟨hx.1, by omega⟩
    have hnw : ∀ j, j < ops.size → ∀ x, newN kf j x → alw C0 kb (kf ops.size) x := fun j hj x hn => by
      have h0 := kf_mono T j 0 (by omega) (by omega)
      have := kf_mono T ops.size (j + 1) (by omega) (Nat.le_refl _)
      unfold newN at hn
      exact .inr ⟨by omega, by omega⟩
    have hle : ∀ j, j < ops.size → ∀ x, Aop A0 ops kf j x → alw C0 kb (kf ops.size) x := fun j hj x hx => by
      rcases hx with (hx | ⟨l, hl, _, hn⟩) | hn
      · exact hold x hx
      · exact hnw l hl x hn
      · exact hnw j hj x hn
    have hF : ∀ t, frD A0 ops kf (frf 0) outf (fun j => decide (j < ops.size)) ops.size t = frD A0 ops kf (frf 0) outf (fun _ => true) ops.size t := fun t => frD_congr _ (fun j hj _ => by simp [hj])
    have hH : ∀ id, HD A0 ops kf (Hf 0) outf (fun j => decide (j < ops.size)) ops.size id = HD A0 ops kf (Hf 0) outf (fun _ => true) ops.size id := fun id => HD_congr _ (fun j hj _ => by simp [hj])
    have hFA : ∀ t m, m ≤ ops.size → ∀ v A, frD A0 ops kf (frf 0) outf (fun _ => true) m t = some (v, A) → ∀ x, A x → alw C0 kb (kf ops.size) x := fun t m => by
      induction m with
      | zero =>
        intro _ v A h x hx
        simp only [frD, Option.map_eq_some_iff] at h
        obtain ⟨u, _, he⟩ := h
        cases he
        exact hold x hx
      | succ m ih =>
        intro hm v A h x hx
        simp only [frD, true_and] at h
        split at h
        · cases h; exact hle m (by omega) x hx
        · exact ih (by omega) v A h x hx
    have hHA : ∀ id m, m ≤ ops.size → ∀ B A, HD A0 ops kf (Hf 0) outf (fun _ => true) m id = some (B, A) → ∀ x, A x → alw C0 kb (kf ops.size) x := fun id m => by
      induction m with
      | zero =>
        intro _ v A h x hx
        simp only [HD, ofHeap, Option.map_eq_some_iff] at h
        obtain ⟨u, _, he⟩ := h
        cases he
        exact hold x hx
      | succ m ih =>
        intro hm B A h x hx
        simp only [HD, if_true] at h
        cases hmod : modAt outf m id with
        | none => rw [hmod] at h; exact ih (by omega) B A h x hx
        | some y =>
          rw [hmod] at h
          simp only [Option.map_eq_some_iff] at h
          obtain ⟨B', _, he⟩ := h
          cases he
          exact hle m (by omega) x hx
    have hst' : Step (below kb) w G ρ w' G' ρ' := ⟨hst.size, hst.keep, hst.shape, hst.g, hst.g', hst.own, fun x hx => hst.ids x (by simp only [below] at hx ⊢; omega), hst.os, hst.tape, hst.output⟩
    refine ⟨G', ρ', kf ops.size, frf ops.size, Hf ops.size, h8 hkn, hkn, ⟨?_, hinv.size, hinv.defers, fun t v hv => ?_⟩, hst'⟩
    · refine hinv.rel.allow _ (fun id hid => ?_) (fun id B A' hid => ?_)
      · simp only [ofHeap, Option.map_eq_none_iff] at hid
        rw [← HD_text T (id := id) ops.size (Nat.le_refl _)] at hid
        rw [hH]
        simpa using hid
      · simp only [ofHeap, Option.map_eq_some_iff] at hid
        obtain ⟨B', hB', he⟩ := hid
        cases he
        rw [← HD_text T (id := id) ops.size (Nat.le_refl _)] at hB'
        simp only [Option.map_eq_some_iff] at hB'
        obtain ⟨⟨B1, A1⟩, h9, h10⟩ := hB'
        simp only at h10; subst h10
        exact ⟨A1, by rw [hH]; exact h9, hHA id ops.size (Nat.le_refl _) _ A1 h9⟩
    · rw [← frD_text T (t := t) ops.size (Nat.le_refl _)] at hv
      simp only [Option.map_eq_some_iff] at hv
      obtain ⟨⟨v1, A1⟩, h9, h10⟩ := hv
      simp only at h10; subst h10
      exact (hinv.frm t v1 A1 (by rw [hF]; exact h9)).mono (fun _ h => h) (fun _ _ => rfl) (fun _ _ => rfl) (hFA t ops.size (Nat.le_refl _) v1 A1 h9) (fun _ _ => .inr rfl)
  · unfold unlisted
    refine Nat.le_trans (List.countP_le_length) ?_
    simp
  · have : HD A0 ops kf (Hf 0) outf (fun j => (Array.replicate ops.size false).getD j false) ops.size = ofHeap (Hf 0) A0 := funext fun id => hemptyH ops.size id
    rw [this, h3, hA0e]
    exact hi.rel.same rfl rfl rfl rfl
  · rw [hemptyF] at hv
    simp only [Option.map_eq_some_iff] at hv
    obtain ⟨u, hu, he⟩ := hv
    cases he
    rw [h2] at hu
    rw [hA0e]
    exact (hi.frm t _ hu).mono (w := w) (w' := { w with drawn := w.drawn + 1 }) (fun _ h => h) (fun _ _ => rfl) (fun _ _ => rfl) (fun _ h => h) (fun _ _ => .inr rfl)
end
end Go.AM
end

section
/-
  The abstract machine, part 12: calls; a contract out of a body.
-/
namespace Go.AM

def callable (P : Program) (g : FuncId) : Bool :=
  match P.funcs[g]? with
  | some fn => fn.body.isSome && fn.name != "runtime.NumGoroutine"
  | none => false

def callOut (v : AVal) (k' : Nat) (Hc Hout : Heap) : Out := ⟨v, k', (Hout.map fun x => (x.1, some x.2)) ++ (Hc.map fun x => (x.1, none)), Hc.map (·.1)⟩

def evArgs (ev : Operand → Option AVal) : List Operand → Option (List AVal)
  | [] => some []
  | x :: r => match ev x, evArgs ev r with
    | some v, some vs => some (v :: vs)
    | _, _ => none

theorem evArgs_spec {ev : Operand → Option AVal} : ∀ {xs : List Operand} {vs : List AVal}, evArgs ev xs = some vs → vs.length = xs.length ∧ ∀ (j : Nat) x v, xs[j]? = some x → vs[j]? = some v → ev x = some v
  | [], vs, h => by cases h; exact ⟨rfl, fun j x v hx => by simp at hx⟩
  | x :: r, vs, h => by
    simp only [evArgs] at h
    split at h
    · rename_i v vs' h1 h2
      cases h
      obtain ⟨h3, h4⟩ := evArgs_spec h2
      refine ⟨by simp [h3], fun j y u hy hu => ?_⟩
      cases j with
      | zero => cases hy; cases hu; exact h1
      | succ j => exact h4 j y u (by simpa using hy) (by simpa using hu)
    · cases h

theorem look_mem {α : Type} : ∀ {l : List (Nat × α)} {i : Nat} {x : α}, look l i = some x → (i, x) ∈ l
  | [], i, x, h => by simp [look] at h
  | (a, y) :: r, i, x, h => by
    simp only [look] at h
    split at h
    · rename_i he; subst he; cases h; simp
    · exact List.mem_cons_of_mem _ (look_mem h)
theorem look_none {α : Type} : ∀ {l : List (Nat × α)} {i : Nat}, look l i = none → ∀ x, (i, x) ∉ l
  | [], i, _, x, hx => by simp at hx
  | (a, y) :: r, i, h, x, hx => by
    simp only [look] at h
    split at h
    · cases h
    · rename_i hne
      rcases List.mem_cons.1 hx with he | he
      · cases he; exact hne rfl
      · exact look_none h x he
theorem look_isSome {α : Type} {l : List (Nat × α)} {i : Nat} {x : α} (h : (i, x) ∈ l) : ∃ y, look l i = some y := by
  cases hl : look l i with
  | none => exact absurd h (look_none hl x)
  | some y => exact ⟨y, rfl⟩

theorem modOf_call (Hc Hout : Heap) (id : Nat) : modOf ((Hout.map fun x => (x.1, some x.2)) ++ (Hc.map fun x => (x.1, (none : Option Blk)))) id =
    match look Hout id with | some B => some (some B) | none => (match look Hc id with | some _ => some none | none => none) := by
  unfold modOf
  induction Hout with
  | nil =>
    simp only [List.map_nil, List.nil_append, look]
    induction Hc with
    | nil => rfl
    | cons x r ih =>
      simp only [List.map_cons, look]
      by_cases h : x.1 = id
      · rw [if_pos h, if_pos h]
      · rw [if_neg h, if_neg h]; exact ih
  | cons x r ih =>
    simp only [List.map_cons, List.cons_append, look]
    by_cases h : x.1 = id
    · rw [if_pos h, if_pos h]
    · rw [if_neg h, if_neg h]; exact ih

/-- the names of a heap -/
def keyB (Hc : Heap) : Nat → Bool := fun i => (look Hc i).isSome

section
variable {P : Program} {Γ : List (Nat × List AVal)} {o : Oper} {ev : Operand → Option AVal} {get : Nat → Option Blk} {k : Nat}

theorem run_call {f : Operand} {args : Array Operand} {ty : Array TypeId} {g : FuncId} (ho : o.op = .call { callee := .value f, args := args, argTypes := ty }) (hg : callable P g = true) (a : Act) (cs : Array Value)
    (hf : a.eval f = .func (.func g) #[] cs) (w : World) : (execOp a.eval o).run P w = .ok (.enter g (args.map a.eval ++ cs)) w := by
  unfold callable at hg
  split at hg
  · rename_i fn hfn
    simp only [Bool.and_eq_true, bne_iff_ne, ne_eq] at hg
    obtain ⟨h1, h2⟩ := hg
    have h3 : fn.body.isNone = false := by cases hb : fn.body with
      | none => rw [hb] at h1; simp at h1
      | some _ => rfl
    simp only [execOp, ho, resolve, hf, Deferred.ofValue, Sem.run_bind, Sem.run_pure, Result.andThen_ok, invoke, callFunc, run_program, hfn]
    rw [if_neg (by simpa using h2)]
    simp [h3]
  · cases hg

/-- A call, by a contract whose outcome is known. -/
theorem call_ok {f : Operand} {args : Array Operand} {ty : Array TypeId} {g : FuncId} {caps vs : List AVal} {Hc Hout : Heap} {r : AVal} {k' : Nat}
    (ho : o.op = .call { callee := .value f, args := args, argTypes := ty }) (hg : callable P g = true) (hf : ev f = some (.fn g caps)) (ha : evArgs ev args.toList = some vs)
    (hb : (vs ++ caps).all (bd (keyB Hc)) = true) (hbH : bdH (keyB Hc) Hc = true) (hin : ∀ id B, look Hc id = some B → get id = some B)
    (hT : Tr P Γ g k (vs ++ caps) Hc (fun k1 r1 H1 => k1 = k' ∧ r1 = r ∧ H1 = Hout)) (hk : k ≤ k') : Good P Γ o ev get k (callOut r k' Hc Hout) := by
  refine ⟨?_, fun id hid => ?_, hk⟩
  · intro w G ρ H A a hr hA hfr hrd hop next Q hn
    have hvf := hop f (by simp [ho, Op.operands, Call.operands]) _ hf
    obtain ⟨cs, hcv, hcl, hcV⟩ : ∃ cs, a.eval f = .func (.func g) #[] cs ∧ caps.length = cs.size ∧ ∀ (j : Nat) v, caps[j]? = some v → V w G ρ A v (cs.getD j undef) := by
      generalize a.eval f = cv at hvf
      cases hvf with
      | fn h1 h2 => exact ⟨_, rfl, h1, h2⟩
    have hHc : ∀ id B, look Hc id = some B → ∃ A', H id = some (B, A') ∧ ∀ i, A' i → A i := fun id B hB => by
      obtain ⟨B', A', h1, h2, h3⟩ := hrd id (by simp only [callOut, List.mem_map]; exact ⟨(id, B), look_mem hB, rfl⟩)
      rw [hin id B hB] at h1; cases h1
      exact ⟨A', h2, h3⟩
    -- the callee's view
    let ρc : Names := fun id => if keyB Hc id = true then ρ id else none
    let Ac : Allow := fun i => A i ∧ keyB Hc i = true
    have hρc : ∀ id, keyB Hc id = true → ρc id = ρ id := fun id h => by simp only [ρc, h, if_true]
    have hρc0 : ∀ id, keyB Hc id = false → ρc id = none := fun id h => by simp only [ρc, h]; rfl
    have toC : ∀ v cv, V w G ρ (fun i => A i ∧ keyB Hc i = true) v cv → V w G ρc Ac v cv := fun v cv h =>
      h.mono (fun _ h => h) (fun _ _ => rfl) (fun _ _ => rfl) (fun _ h => h) (fun i hi => .inr (hρc i hi.2))
    have hsomec : ∀ id x, ρc id = some x → ρ id = some x ∧ keyB Hc id = true := fun id x h => by
      cases hkb : keyB Hc id with
      | false => rw [hρc0 id hkb] at h; cases h
      | true => rw [hρc id hkb] at h; exact ⟨h, rfl⟩
    have hrelc : HRel Γ w G ρc (ofHeap Hc Ac) := by
      refine ⟨fun id hid => ?_, fun id B A1 hid => ?_, fun i j b s t hi hj => hr.inj i j b s t (hsomec _ _ hi).1 (hsomec _ _ hj).1, hr.ro, hr.glob⟩
      · simp only [ofHeap, Option.map_eq_none_iff] at hid
        exact hρc0 id (by simp [keyB, hid])
      · simp only [ofHeap, Option.map_eq_some_iff] at hid
        obtain ⟨B', hB', he⟩ := hid
        cases he
        obtain ⟨A', h1, h2⟩ := hHc id B hB'
        obtain ⟨h3, b, h4, h5, ⟨⟨C, ty', hC, hrows⟩, hlen⟩⟩ := hr.blk id B A' h1
        have hkb : keyB Hc id = true := by simp [keyB, hB']
        refine ⟨⟨h2 _ h3, hkb⟩, b, by rw [hρc id hkb]; exact h4, h5, ⟨⟨C, ty', hC, fun r row c v h6 h7 => ?_⟩, hlen⟩⟩
        obtain ⟨cv, h8, h9⟩ := hrows r row c v h6 h7
        refine ⟨cv, h8, ?_⟩
        by_cases hp : B.pure = true
        · simp only [hp, if_true] at h9 ⊢; exact h9
        · simp only [hp] at h9 ⊢
          have h10 := look_all hbH hB'
          simp only [Bool.and_eq_true, Bool.or_eq_true] at h10
          have h11 := all_get (all_get (h10.2.resolve_left hp) h6) h7
          have h12 : V w G ρ A v cv := h9.mono (fun _ h => h) (fun _ _ => rfl) (fun _ _ => rfl) h2 (fun _ _ => .inr rfl)
          exact toC _ _ (V_bd0 h12 h11)
    obtain ⟨hal, haev⟩ := evArgs_spec ha
    have hVs : Vs w G ρc Ac (vs ++ caps) (args.map a.eval ++ cs) := by
      refine ⟨by simp [hal, hcl], fun j v hj => ?_⟩
      have hbj := all_get hb hj
      rw [List.getElem?_append] at hj
      split at hj
      · rename_i hlt
        have hltA : j < args.size := by rw [hal] at hlt; simpa using hlt
        have hx : args[j]? = some args[j] := Array.getElem?_eq_getElem hltA
        have h1 := haev j args[j] v (by rw [Array.getElem?_toList]; exact hx) hj
        have h2 := hop args[j] (by simp [ho, Op.operands, Call.operands]) v h1
        have e : (args.map a.eval ++ cs).getD j undef = a.eval args[j] := by
          rw [Array.getD_eq_getD_getElem?, Array.getElem?_append_left (by simpa using hltA), Array.getElem?_map, hx]; rfl
        rw [e]
        exact toC _ _ (V_bd h2 hbj)
      · rename_i hge
        have h2 := hcV _ v hj
        have hlt2 := (List.getElem?_eq_some_iff.1 hj).1
        have e : (args.map a.eval ++ cs).getD j undef = cs.getD (j - vs.length) undef := by
          rw [Array.getD_eq_getD_getElem?, Array.getD_eq_getD_getElem?, Array.getElem?_append_right (by simp [← Array.length_toList, ← hal]; omega)]
          simp [← Array.length_toList, ← hal]
        rw [e]
        exact toC _ _ (V_bd h2 hbj)
    have hcall := hT Ac (fun i hi => hA i hi.1) w G ρc (args.map a.eval ++ cs) hrelc hVs
    unfold Oper.wp
    rw [run_call ho hg a cs hcv w]
    refine hcall.mono fun e w' hp => ?_
    obtain ⟨cv, G', ρ', k1, r1, H1, rfl, ⟨rfl, rfl, rfl⟩, hkk, hrel', hV', hst'⟩ := hp
    -- the names put together
    have hHout : ∀ id B, look H1 id = some B → keyB Hc id = true ∨ (k ≤ id ∧ id < k1) := fun id B hB => by
      obtain ⟨h1, b, h2, _⟩ := hrel'.blk id B (alw Ac k k1) (by simp [ofHeap, hB])
      rcases h1 with h1 | h1
      · exact .inl h1.2
      · exact .inr h1
    let ρ'' : Names := fun id => if keyB Hc id = true ∨ keyB H1 id = true then ρ' id else ρ id
    have hn1 : ∀ id, keyB Hc id = true → ρ'' id = ρ' id := fun id h => by simp only [ρ'']; rw [if_pos (.inl h)]
    have hn2 : ∀ id, keyB H1 id = true → ρ'' id = ρ' id := fun id h => by simp only [ρ'']; rw [if_pos (.inr h)]
    have hn3 : ∀ id, keyB Hc id = false → keyB H1 id = false → ρ'' id = ρ id := fun id h h' => by simp only [ρ'']; rw [if_neg (by rw [h, h']; simp)]
    have hnew : ∀ id, k ≤ id → id < k1 → ρ'' id = ρ' id := fun id h1 h2 => by
      cases hkc : keyB Hc id with
      | true => exact hn1 id hkc
      | false =>
        cases hk1 : keyB H1 id with
        | true => exact hn2 id hk1
        | false =>
          rw [hn3 id hkc hk1, (hfr id h1 h2).1, hrel'.dom id (by simp only [ofHeap]; simp only [keyB] at hk1; simp at hk1; rw [hk1]; rfl)]
    have hkeyA : ∀ id, keyB Hc id = true → A id := fun id h => by
      obtain ⟨B, hB⟩ := Option.isSome_iff_exists.1 h
      obtain ⟨A', h1, h2⟩ := hHc id B hB
      exact h2 _ (hr.blk id B A' h1).1
    have hback : ∀ id, ¬ (k ≤ id ∧ id < k1) → ρ'' id = none ∨ ρ'' id = ρ id := fun id hid => by
      cases hkc : keyB Hc id with
      | true =>
        rw [hn1 id hkc]
        rcases hst'.ids id (hA id (hkeyA id hkc)) with h | h
        · exact .inl h
        · exact .inr (h.trans (hρc id hkc))
      | false =>
        cases hk1 : keyB H1 id with
        | true =>
          obtain ⟨B, hB⟩ := Option.isSome_iff_exists.1 hk1
          rcases hHout id B hB with h | h
          · rw [hkc] at h; cases h
          · exact absurd h hid
        | false => exact .inr (hn3 id hkc hk1)
    have hown : ∀ b, owned ρc b → owned ρ b := fun b ⟨id, s, h⟩ => ⟨id, s, (hsomec _ _ h).1⟩
    have hst : Step (fun i => ¬ (k ≤ i ∧ i < k1)) w G ρ w' G' ρ'' := by
      refine ⟨hst'.size, fun b hb ho' => hst'.keep b hb (fun h => ho' (hown b h)), hst'.shape, hst'.g, fun b hb => ?_, ?_, hback, hst'.os, hst'.tape, hst'.output⟩
      · rcases hst'.g' b hb with h | h | h
        · exact .inl h
        · exact .inr (.inl (hown b h))
        · exact .inr (.inr h)
      · rintro b ⟨id, s, h⟩
        simp only [ρ''] at h
        split at h
        · rcases hst'.own b ⟨id, s, h⟩ with h | h
          · exact .inl (hown b h)
          · exact .inr h
        · exact .inl ⟨id, s, h⟩
    have hVV : ∀ v cv, V w' G' ρ' (alw Ac k k1) v cv → V w' G' ρ'' (fun i => A i ∨ (k ≤ i ∧ i < k1)) v cv := fun v cv h =>
      h.mono (fun _ h => h) (fun _ _ => rfl) (fun _ _ => rfl) (fun i hi => hi.imp (fun h => h.1) id) (fun i hi => by
        rcases hi with hi | hi
        · exact .inr (hn1 i hi.2)
        · exact .inr (hnew i hi.1 hi.2))
    refine hn w' G' ρ'' cv ?_ (hVV _ _ hV') hst
    -- the heap put together
    have hupd : ∀ id, updO H (fun i => A i ∨ (k ≤ i ∧ i < k1)) (callOut r1 k1 Hc H1).upd id = match look H1 id with | some B => some (B, fun i => A i ∨ (k ≤ i ∧ i < k1)) | none => (match look Hc id with | some _ => none | none => H id) := fun id => by
      rw [updO_modOf]
      show (match modOf ((H1.map fun x => (x.1, some x.2)) ++ (Hc.map fun x => (x.1, (none : Option Blk)))) id with | some x => x.map fun B => (B, fun i => A i ∨ (k ≤ i ∧ i < k1)) | none => H id) = _
      rw [modOf_call]
      cases look H1 id with
      | some B => rfl
      | none => cases look Hc id <;> rfl
    refine hr.after hst _ (fun id hid => ?_) (fun id B A1 hid => ?_) (fun i j b s t hi hj => ?_) hrel'.ro
    · have hid' : updO H (fun i => A i ∨ (k ≤ i ∧ i < k1)) (callOut r1 k1 Hc H1).upd id = none := hid
      rw [hupd] at hid'
      cases h1 : look H1 id with
      | some B => rw [h1] at hid'; cases hid'
      | none =>
        rw [h1] at hid'
        cases h2 : look Hc id with
        | some B =>
          rw [hn1 id (by simp [keyB, h2])]
          exact hrel'.dom id (by simp [ofHeap, h1])
        | none =>
          rw [h2] at hid'
          rw [hn3 id (by simp [keyB, h2]) (by simp [keyB, h1])]
          exact hr.dom id hid'
    · have hid' : updO H (fun i => A i ∨ (k ≤ i ∧ i < k1)) (callOut r1 k1 Hc H1).upd id = some (B, A1) := hid
      rw [hupd] at hid'
      cases h1 : look H1 id with
      | some B' =>
        rw [h1] at hid'
        cases hid'
        obtain ⟨h2, b, h3, h4, ⟨⟨C, ty', hC, hrows⟩, hlen⟩⟩ := hrel'.blk id B (alw Ac k k1) (by simp [ofHeap, h1])
        refine ⟨h2.imp (fun h => h.1) (fun h => h), .inr ⟨b, by rw [hn2 id (by simp [keyB, h1])]; exact h3, h4, ⟨⟨C, ty', hC, fun r row c v h6 h7 => ?_⟩, hlen⟩⟩⟩
        obtain ⟨cv', h8, h9⟩ := hrows r row c v h6 h7
        refine ⟨cv', h8, ?_⟩
        by_cases hp : B.pure = true
        · simp only [hp, if_true] at h9 ⊢; exact h9
        · simp only [hp] at h9 ⊢; exact hVV _ _ h9
      | none =>
        rw [h1] at hid'
        cases h2 : look Hc id with
        | some B' => rw [h2] at hid'; cases hid'
        | none =>
          rw [h2] at hid'
          obtain ⟨h3, b, h4, h5, _⟩ := hr.blk id B A1 hid'
          have hnc : ¬ owned ρc b := fun ⟨i', s', h⟩ => by
            obtain ⟨h6, h7⟩ := hsomec _ _ h
            have := hr.inj i' id _ _ _ h6 h4
            subst this
            simp [keyB, h2] at h7
          have hbl := hr.owned_lt ⟨id, _, h4⟩
          refine ⟨h3, .inl ⟨A1, b, hid', fun _ h => h, fun i hi hc => (hfr i hc.1 hc.2).2 id B A1 hid' hi, by rw [hn3 id (by simp [keyB, h2]) (by simp [keyB, h1])], h4, hst'.keep b hbl hnc, fun hg' => ?_⟩⟩
          rcases hst'.g' b hg' with h | h | h
          · exact h5 h
          · exact hnc h
          · omega
    · -- no two names for one block
      have side : ∀ i s, ρ'' i = some (b, s) → (ρ' i = some (b, s) ∧ (keyB Hc i = true ∨ keyB H1 i = true)) ∨ (ρ i = some (b, s) ∧ keyB Hc i = false) := fun i s h => by
        simp only [ρ''] at h
        split at h
        · rename_i hc; exact .inl ⟨h, hc⟩
        · rename_i hc; exact .inr ⟨h, by cases hkc : keyB Hc i with | true => exact absurd (.inl hkc) hc | false => rfl⟩
      have cross : ∀ i j s t, ρ' i = some (b, s) → ρ j = some (b, t) → keyB Hc j = false → False := fun i j s t h1 h2 h3 => by
        rcases hst'.own b ⟨i, s, h1⟩ with ⟨i', s', h⟩ | h
        · obtain ⟨h4, h5⟩ := hsomec _ _ h
          have := hr.inj i' j _ _ _ h4 h2
          subst this
          rw [h3] at h5; cases h5
        · have := hr.owned_lt ⟨j, t, h2⟩; omega
      rcases side i s hi with ⟨h1, _⟩ | ⟨h1, h1'⟩ <;> rcases side j t hj with ⟨h2, _⟩ | ⟨h2, h2'⟩
      · exact hrel'.inj i j b s t h1 h2
      · exact (cross i j s t h1 h2 h2').elim
      · exact (cross j i t s h2 h1 h1').elim
      · exact hr.inj i j b s t h1 h2
  · simp only [callOut, List.mem_map] at hid
    obtain ⟨x, hx, rfl⟩ := hid
    obtain ⟨y, hy⟩ := look_isSome hx
    rw [hin _ y hy]; rfl

/- A contract out of a body. -/
def resV (P : Program) (fr : Fr) (H : Heap) : ResultVar → Option AVal
  | .tmp t => look fr t
  | .cell a t => match look fr a, tagg P t, tsz P t with
    | some (.ptr id r c), some ag, some n => (look H id).bind fun B => (B.rows[r]?).bind fun row => rowPart ag n row c
    | _, _, _ => none
def resVs (P : Program) (fr : Fr) (H : Heap) : List ResultVar → Option (List AVal)
  | [] => some []
  | x :: r => match resV P fr H x, resVs P fr H r with
    | some v, some vs => some (v :: vs)
    | _, _ => none
def resA (P : Program) (fn : Func) (fr : Fr) (H : Heap) : Option AVal :=
  match resVs P fr H fn.results.toList with
  | some [v] => some v
  | some vs => some (.tup vs)
  | none => none

def retQ (P : Program) (fn : Func) (Q : Nat → AVal → Heap → Prop) : AQ
  | .normal, k, fr, H => ∃ r, resA P fn fr H = some r ∧ Q k r H
  | .ret, k, fr, H => ∃ r, resA P fn fr H = some r ∧ Q k r H
  | _, _, _, _ => False

def loadRes (tmps : Array Value) : ResultVar → Sem Value
  | .tmp t => pure (tmps.getD t undef)
  | .cell a t => do loadVar t (← asAddr (tmps.getD a undef))

theorem resV_run {A : Allow} {nt : Nat} {fr : Fr} {H : Heap} {w : World} {G : Nat → Prop} {ρ : Names} {a : Act} (hi : Inv Γ nt w G ρ A a fr H) {x : ResultVar} {v : AVal} (h : resV P fr H x = some v) :
    ∃ cv, (loadRes a.tmps x).run P w = .ok cv w ∧ V w G ρ A v cv := by
  cases x with
  | tmp t => exact ⟨_, rfl, hi.frm t v h⟩
  | cell ad t =>
    simp only [resV] at h
    split at h
    · rename_i id r c ag n h1 h2 h3
      obtain ⟨B, hB, h4⟩ := Option.bind_eq_some_iff.1 h
      obtain ⟨row, hrow, h5⟩ := Option.bind_eq_some_iff.1 h4
      have hv := hi.frm ad _ h1
      obtain ⟨_, b, hb, _, ⟨⟨C, ty, hC, hrows⟩, hlen⟩⟩ := hi.rel.blk id B A (by simp [ofHeap, hB])
      generalize hev : a.tmps.getD ad undef = cv at hv
      cases hv with
      | dang _ hn => rw [hb] at hn; cases hn
      | ptr ha hρ =>
        rw [hb] at hρ; cases hρ
        have hcell : ∀ j u, row[j]? = some u → w.cell? ⟨b, r * B.sz + j, none⟩ = some (C.getD (r * B.sz + j) undef) := fun j u hj => by
          obtain ⟨cv, h3, _⟩ := hrows r row j u hrow hj
          rw [cell_of_row w b _ C ty (0, 0) hC, h3, Array.getD_eq_getD_getElem?, h3]; rfl
        have hval : ∀ j u, row[j]? = some u → V w G ρ A u (C.getD (r * B.sz + j) undef) := fun j u hj => by
          obtain ⟨cv, h3, h4⟩ := hrows r row j u hrow hj
          rw [Array.getD_eq_getD_getElem?, h3]
          by_cases hp : B.pure = true
          · simp only [hp, if_true] at h4; exact h4.weaken
          · simp only [hp] at h4; exact h4
        obtain ⟨cv, hrun, hV⟩ := load_part (P := P) h2 h3 h5 (fun j => C.getD (r * B.sz + j) undef) hcell hval
        refine ⟨cv, ?_, hV⟩
        simp only [Instr.loadAt, Instr.sureAddr, Sem.run_bind, Sem.run_pure, Result.andThen_ok] at hrun
        show Sem.run P (do loadVar t (← asAddr (a.tmps.getD ad undef))) w = _
        rw [hev]
        simp [asAddr, hrun]
    · cases h

theorem resVs_run {A : Allow} {nt : Nat} {fr : Fr} {H : Heap} {w : World} {G : Nat → Prop} {ρ : Names} {a : Act} (hi : Inv Γ nt w G ρ A a fr H) : ∀ {xs : List ResultVar} {vs : List AVal}, resVs P fr H xs = some vs →
    ∃ cs : List Value, (xs.mapM (loadRes a.tmps)).run P w = .ok cs w ∧ vs.length = cs.length ∧
      ∀ (j : Nat) v c, vs[j]? = some v → cs[j]? = some c → V w G ρ A v c
  | [], vs, h => by cases h; exact ⟨[], rfl, rfl, fun j v c hv => by simp at hv⟩
  | x :: r, vs, h => by
    simp only [resVs] at h
    split at h
    · rename_i v vs' h1 h2
      cases h
      obtain ⟨cv, h3, h4⟩ := resV_run hi h1
      obtain ⟨cs, h5, h6, h7⟩ := resVs_run hi h2
      refine ⟨cv :: cs, ?_, by simp [h6], fun j u c hu hc => ?_⟩
      · rw [List.mapM_cons, Sem.run_bind, h3, Result.andThen_ok, Sem.run_bind, h5]; rfl
      · cases j with
        | zero => cases hu; cases hc; exact h4
        | succ j => exact h7 j u c (by simpa using hu) (by simpa using hc)
    · cases h

theorem resA_run {A : Allow} {nt : Nat} {fn : Func} {fr : Fr} {H : Heap} {w : World} {G : Nat → Prop} {ρ : Names} {a : Act} (hi : Inv Γ nt w G ρ A a fr H) {r : AVal} (h : resA P fn fr H = some r) :
    ∃ cv, (results fn a.tmps).run P w = .ok cv w ∧ V w G ρ A r cv := by
  unfold resA at h
  cases hvs : resVs P fr H fn.results.toList with
  | none => rw [hvs] at h; cases h
  | some vs =>
    obtain ⟨cs, h1, h2, h3⟩ := resVs_run hi hvs
    have hmap : (fn.results.mapM (loadRes a.tmps)).run P w = .ok cs.toArray w := by
      rw [Array.mapM_eq_mapM_toList, Sem.run_map, h1]; rfl
    have hres : (results fn a.tmps).run P w = .ok (if h : cs.toArray.size = 1 then cs.toArray[0] else .tuple cs.toArray) w := by
      show Sem.run P (do let vs ← fn.results.mapM (loadRes a.tmps); pure (if h : vs.size = 1 then vs[0] else .tuple vs)) w = _
      rw [Sem.run_bind, hmap]; rfl
    refine ⟨_, hres, ?_⟩
    rw [hvs] at h
    match vs, h, h2, h3 with
    | [v], h, h2, h3 =>
      cases h
      match cs, h2, h3 with
      | [c], _, h3 => exact h3 0 _ c rfl rfl
    | [], h, h2, h3 =>
      cases h
      match cs, h2 with
      | [], _ => exact .tup rfl (fun j v hj => by simp at hj)
    | v1 :: v2 :: vr, h, h2, h3 =>
      cases h
      match cs, h2, h3 with
      | c1 :: c2 :: cr, h2, h3 =>
        rw [dif_neg (by simp)]
        refine .tup (by simpa using h2) fun j v hj => ?_
        have hlt := (List.getElem?_eq_some_iff.1 hj).1
        have hlt' : j < (c1 :: c2 :: cr).length := by omega
        have e : (c1 :: c2 :: cr).toArray.getD j undef = (c1 :: c2 :: cr)[j] := by
          rw [Array.getD_eq_getD_getElem?, List.getElem?_toArray, List.getElem?_eq_getElem hlt']; rfl
        rw [e]
        exact h3 j v _ hj (List.getElem?_eq_getElem hlt')

/-- THE RULE OF A FUNCTION: walk its body from the parameters' frame. -/
theorem Tr_body {f : FuncId} {fn : Func} {c : Code} {args : List AVal} {H : Heap} {Q : Nat → AVal → Heap → Prop} (hf : P.funcs[f]? = some fn) (hb : fn.body = some c) (hn : args.length ≤ fn.ntmps)
    (h : W P Γ fn.ntmps k c (retQ P fn Q) k (argFr 0 args) H) : Tr P Γ f k args H Q := by
  intro A hA w G ρ cargs hrel hargs
  have hi : Inv Γ fn.ntmps w G ρ (alw A k k) { tmps := cargs ++ Array.replicate (fn.ntmps - cargs.size) undef, defers := [] } (argFr 0 args) H := by
    have hAk : A = alw A k k := funext fun i => by simp only [alw, eq_iff_iff]; constructor; · exact .inl
                                                   · rintro (h | h); · exact h
                                                     · omega
    rw [← hAk]
    refine ⟨hrel, by simp [← hargs.1]; omega, rfl, fun t v hv => ?_⟩
    obtain ⟨_, h2⟩ := argFr_look args 0 t v hv
    simp only [Nat.sub_zero] at h2
    have hlt := (List.getElem?_eq_some_iff.1 h2).1
    have := hargs.2 t v h2
    have e : (cargs ++ Array.replicate (fn.ntmps - cargs.size) undef).getD t undef = cargs.getD t undef := by
      rw [Array.getD_eq_getD_getElem?, Array.getD_eq_getD_getElem?, Array.getElem?_append_left (by rw [← hargs.1]; exact hlt)]
    rw [e]; exact this
  refine calls_of_wp hf hb (wp_mono (h A hA (Nat.le_refl _) w G ρ _ hi) fun e a' w' hp => ?_)
  obtain ⟨G', ρ', k', fr', H', hQ, hk', hi', hst⟩ := hp
  have fin : (∃ r, resA P fn fr' H' = some r ∧ Q k' r H') → a'.defers = [] ∧ ∃ v, (results fn a'.tmps).run P w' = .ok v w' ∧ ∃ cv G' ρ' k' r H', Ending.returned v = .returned cv ∧ Q k' r H' ∧ k ≤ k' ∧ HRel Γ w' G' ρ' (ofHeap H' (alw A k k')) ∧ V w' G' ρ' (alw A k k') r cv ∧ Step (below k) w G ρ w' G' ρ' := by
    rintro ⟨r, hr, hq⟩
    obtain ⟨cv, h1, h2⟩ := resA_run (P := P) (fn := fn) hi' hr
    exact ⟨hi'.defers, cv, h1, cv, G', ρ', k', r, H', rfl, hq, hk', hi'.rel, h2, hst⟩
  cases e with
  | normal => exact fin hQ
  | ret => exact fin hQ
  | exit id => exact hQ.elim
  | goto l => exact hQ.elim
  | panic ch => exact hQ.elim
  | outgrown => exact hQ.elim
end
end Go.AM
end

section
/-
  The abstract machine, part 13: parts of slices; nil; structs compared; append's cases.
-/
namespace Go.AM
section
variable {P : Program} {Γ : List (Nat × List AVal)} {o : Oper} {ev : Operand → Option AVal} {get : Nat → Option Blk} {k : Nat}

/- s[lo:hi] -/
def bound (ev : Operand → Option AVal) (x : Option Operand) (d : Int) : Option Int :=
  match x with
  | none => some d
  | some y => match ev y with
    | some (.lit (.int _ i)) => some i
    | _ => none

theorem run_slice_part {t s : Nat} (ht : esz P t = some s) (lo hi : Option Value) (base : Option Addr) (len cap : Nat) (l h : Int) (hl : lo = none ∧ l = 0 ∨ ∃ kk, lo = some (.int kk l)) (hh : hi = none ∧ h = len ∨ ∃ kk, hi = some (.int kk h))
    (h0 : 0 ≤ l) (h1 : l ≤ h) (h2 : h ≤ len) (h3 : len ≤ cap) (w : World) :
    (Instr.sliceAt t (.slice base len cap) lo hi none).run P w = .ok (.slice (if cap = l.toNat then base else base.map (·.add (l.toNat * s))) (h.toNat - l.toNat) (cap - l.toNat)) w := by
  obtain ⟨e, i, hu, hi', rfl⟩ := esz_spec ht
  have hb : (Instr.sliceBounds true len cap lo hi none).run P w = .ok (l.toNat, h.toNat, cap) w := by
    have q1 : (0 : Int) ≤ h ∧ h ≤ (cap : Int) := ⟨by omega, by omega⟩
    have q3 : (0 : Int) ≤ l ∧ l ≤ (h.toNat : Int) := ⟨h0, by omega⟩
    rcases hl with ⟨rfl, rfl⟩ | ⟨kl, rfl⟩ <;> rcases hh with ⟨rfl, rfl⟩ | ⟨kh, rfl⟩
    · simp [Instr.sliceBounds]
    · simp [Instr.sliceBounds, Instr.sliceBound, asIntOf, q1]
    · have q2 : (0 : Int) ≤ l ∧ l ≤ (len : Int) := ⟨h0, h1⟩
      simp [Instr.sliceBounds, Instr.sliceBound, asIntOf, q2]
    · simp only [Instr.sliceBounds, Instr.sliceBound, asIntOf, Sem.run_bind, Sem.run_pure, Result.andThen_ok, q1, and_self, if_true, q3]
  simp only [Instr.sliceAt, underlying, Sem.run_bind, run_program, Result.andThen_ok, hu, Sem.run_pure, Instr.slice, hb, sizeOf, typeInfo, hi']

theorem bound_spec {x : Option Operand} {d i : Int} (h : bound ev x d = some i) {a : Act} {w : World} {G : Nat → Prop} {ρ : Names} {A : Allow} (hv : ∀ y, x = some y → ∀ v, ev y = some v → V w G ρ A v (a.eval y)) :
    x.map a.eval = none ∧ i = d ∨ ∃ kk, x.map a.eval = some (.int kk i) := by
  cases x with
  | none => cases h; exact .inl ⟨rfl, rfl⟩
  | some y =>
    simp only [bound] at h
    split at h
    · rename_i kk j hy
      cases h
      have := V_bool (hv y rfl _ hy)
      exact .inr ⟨kk, by simp [this]⟩
    · cases h

theorem slice_rd_ok {t s n : Nat} {x : Operand} {lo hi : Option Operand} {f : Nat → List AVal} {l h : Int} (ho : o.op = .slice t x lo hi none) (ht : esz P t = some s) (hx : ev x = some (.rd s n f)) (hl : bound ev lo 0 = some l) (hh : bound ev hi n = some h)
    (h0 : 0 ≤ l) (h1 : l ≤ h) (h2 : h ≤ n) : OpOk P Γ o ev get k ⟨.rd s (h.toNat - l.toNat) (fun i => f (l.toNat + i)), k, [], []⟩ := by
  refine OpOk_quiet fun w G ρ H A a hr _ hop => ?_
  have hvx := hop x (by simp [ho, Op.operands]) _ hx
  have el := bound_spec (w := w) (G := G) (ρ := ρ) (A := A) (a := a) hl (fun y hy v hv => hop y (by simp [ho, Op.operands, hy]) v hv)
  have eh := bound_spec (w := w) (G := G) (ρ := ρ) (A := A) (a := a) hh (fun y hy v hv => hop y (by simp [ho, Op.operands, hy]) v hv)
  generalize hev : a.eval x = cv at hvx
  cases hvx with
  | rd0 =>
    rename_i base cap
    have hrun := run_slice_part ht (lo.map a.eval) (hi.map a.eval) base 0 cap l h el eh h0 h1 (by omega) (by omega) w
    have e0 : h.toNat - l.toNat = 0 := by omega
    refine ⟨_, by simp only [execOp, ho, hev, Option.map_none, Sem.run_bind, hrun, Result.andThen_ok, Sem.run_pure]; rfl, ?_⟩
    rw [e0]; exact .rd0
  | rd g hb hcap hn hlen hc hv =>
    rename_i b off cap
    have hrun := run_slice_part ht (lo.map a.eval) (hi.map a.eval) (some ⟨b, off, none⟩) n cap l h el eh h0 h1 h2 hcap w
    refine ⟨_, by simp only [execOp, ho, hev, Option.map_none, Sem.run_bind, hrun, Result.andThen_ok, Sem.run_pure]; rfl, ?_⟩
    by_cases hcl : cap = l.toNat
    · have e0 : h.toNat - l.toNat = 0 := by omega
      rw [e0]; exact .rd0
    · rw [if_neg hcl, Option.map_some, Addr.add_mid]
      refine .rd (fun i j => g (l.toNat + i) j) hb (by omega) (by omega) (fun i hi' => hlen _ (by omega)) (fun i j v hi' hj => ?_) (fun i j v hi' hj => hv _ j v (by omega) hj)
      have := hc (l.toNat + i) j v (by omega) hj
      rw [← this]
      congr 2
      rw [Nat.add_mul]; omega

theorem slice_sl_ok {t s n id r : Nat} {x : Operand} {lo hi : Option Operand} {B : Blk} {l h : Int} (ho : o.op = .slice t x lo hi none) (ht : esz P t = some s) (hx : ev x = some (.sl id r n)) (hB : get id = some B) (hs : B.sz = s)
    (hl : bound ev lo 0 = some l) (hh : bound ev hi n = some h) (h0 : 0 ≤ l) (h1 : l ≤ h) (h2 : h ≤ n) : OpOk P Γ o ev get k ⟨.sl id (r + l.toNat) (h.toNat - l.toNat), k, [], [id]⟩ := by
  refine OpOk_quiet fun w G ρ H A a hr hrd hop => ?_
  have hvx := hop x (by simp [ho, Op.operands]) _ hx
  have el := bound_spec (w := w) (G := G) (ρ := ρ) (A := A) (a := a) hl (fun y hy v hv => hop y (by simp [ho, Op.operands, hy]) v hv)
  have eh := bound_spec (w := w) (G := G) (ρ := ρ) (A := A) (a := a) hh (fun y hy v hv => hop y (by simp [ho, Op.operands, hy]) v hv)
  obtain ⟨B', A', h3, hH, _⟩ := hrd id (by simp)
  rw [hB] at h3; cases h3
  obtain ⟨_, b, hb, _⟩ := hr.blk id B A' hH
  generalize hev : a.eval x = cv at hvx
  cases hvx with
  | dangs _ hn => rw [hb] at hn; cases hn
  | sl ha hρ hsh hm hn hc hoff =>
    rw [hb] at hρ; cases hρ
    rename_i ty m cap off
    have hrun := run_slice_part ht (lo.map a.eval) (hi.map a.eval) (some ⟨b, off, none⟩) n cap l h el eh h0 h1 h2 hn w
    refine ⟨_, by simp only [execOp, ho, hev, Option.map_none, Sem.run_bind, hrun, Result.andThen_ok, Sem.run_pure]; rfl, ?_⟩
    have hm' : (r + l.toNat + (cap - l.toNat)) * B.sz ≤ m := by
      have : r + l.toNat + (cap - l.toNat) = r + cap := by omega
      rw [this]; exact hm
    by_cases hcl : cap = l.toNat
    · rw [if_pos hcl]
      exact .sl ha hb hsh hm' (by omega) (by omega) (.inl (by omega))
    · rw [if_neg hcl, Option.map_some, Addr.add_mid]
      refine .sl ha hb hsh hm' (by omega) (by omega) (.inr ?_)
      rcases hoff with h4 | h4
      · omega
      · rw [h4, ← hs, Nat.add_mul]

/- against nil -/
def notNil (get : Nat → Option Blk) : AVal → Bool
  | .ptr id _ _ => (get id).isSome
  | .rp _ => true
  | .sl id _ _ => (get id).isSome
  | .rd _ n _ => decide (0 < n)
  | .fn _ _ => true
  | _ => false
def nilLike : AVal → Bool
  | .lit (.pointer none) => true
  | .lit (.slice none _ _) => true
  | .lit .nilFunc => true
  | _ => false
def refT (P : Program) (t : TypeId) : Option Nat :=
  match P.underlying t with
  | some (.pointer _) => some 0
  | some (.slice _) => some 1
  | some (.func ..) => some 2
  | _ => none
def kindOf : AVal → Nat
  | .ptr .. => 0
  | .rp _ => 0
  | .lit (.pointer _) => 0
  | .sl .. => 1
  | .rd .. => 1
  | .lit (.slice ..) => 1
  | .fn .. => 2
  | .lit .nilFunc => 2
  | _ => 3
def rdsOf : AVal → List Nat
  | .ptr id _ _ => [id]
  | .sl id _ _ => [id]
  | _ => []

theorem equalIn_ptr {t e : Nat} (he : P.underlying t = some (.pointer e)) (d : Nat) (p : Addr) (w : World) : (Op.equalIn (d + 1) t (.pointer (some p)) (.pointer none)).run P w = .ok false w ∧ (Op.equalIn (d + 1) t (.pointer none) (.pointer (some p))).run P w = .ok false w := by
  constructor <;> simp [Op.equalIn, run_underlying he]
theorem equalIn_ptr0 {t e : Nat} (he : P.underlying t = some (.pointer e)) (d : Nat) (w : World) : (Op.equalIn (d + 1) t (.pointer none) (.pointer none)).run P w = .ok true w := by
  simp [Op.equalIn, run_underlying he]
theorem equalIn_sl0 {t e : Nat} (he : P.underlying t = some (.slice e)) (d : Nat) (m c m' c' : Nat) (w : World) : (Op.equalIn (d + 1) t (.slice none m c) (.slice none m' c')).run P w = .ok true w := by
  simp [Op.equalIn, run_underlying he]
theorem equalIn_sl {t e : Nat} (he : P.underlying t = some (.slice e)) (d : Nat) (p : Addr) (m c m' c' : Nat) (w : World) : (Op.equalIn (d + 1) t (.slice (some p) m c) (.slice none m' c')).run P w = .ok false w ∧ (Op.equalIn (d + 1) t (.slice none m' c') (.slice (some p) m c)).run P w = .ok false w := by
  constructor <;> simp [Op.equalIn, run_underlying he]
theorem equalIn_fn {t : Nat} {ps rs : Array TypeId} {vr : Bool} (he : P.underlying t = some (.func ps rs vr)) (d : Nat) (fn : Fn) (fi cc : Array Value) (w : World) : (Op.equalIn (d + 1) t (.func fn fi cc) .nilFunc).run P w = .ok false w ∧ (Op.equalIn (d + 1) t .nilFunc (.func fn fi cc)).run P w = .ok false w := by
  constructor <;> simp [Op.equalIn, run_underlying he]

theorem eqGuard_idle {t : Nat} {x y : Value} (h1 : ¬ (x = .nilIface ∧ y = .nilIface)) (h2 : ∀ a b, ¬ (x = .agg a ∧ y = .agg b)) (op : BinOp) (p q : Operand) (w : World) : (eqGuard op t p q x y).run P w = .ok () w := by
  unfold eqGuard
  cases op <;> first | rfl | (cases x <;> cases y <;> first | rfl | exact absurd ⟨rfl, rfl⟩ h1 | exact absurd ⟨rfl, rfl⟩ (h2 _ _))

/-- what is known of two values one of which is nil -/
def NilEq (P : Program) (w : World) (t : TypeId) (cv cz : Value) : Prop :=
  (∀ op x y, (eqGuard op t x y cv cz).run P w = .ok () w) ∧ (∀ op x y, (eqGuard op t x y cz cv).run P w = .ok () w) ∧
      (binOp .eql t cv cz).run P w = .ok (.bool false) w ∧ (binOp .neq t cv cz).run P w = .ok (.bool true) w ∧ (binOp .eql t cz cv).run P w = .ok (.bool false) w ∧ (binOp .neq t cz cv).run P w = .ok (.bool true) w

theorem eql_of {t : Nat} {x y : Value} {w : World} {b : Bool} (hp : (∀ k n, x ≠ .int k n) ∧ (∀ k n, y ≠ .int k n) ∧ (∀ s, x ≠ .string s) ∧ (∀ k n, x ≠ .float k n) ∧ (∀ k n m, x ≠ .complex k n m)) (h : (Op.equal t x y).run P w = .ok b w) :
    (binOp .eql t x y).run P w = .ok (.bool b) w ∧ (binOp .neq t x y).run P w = .ok (.bool (!b)) w := by
  obtain ⟨h1, h2, h3, h4, h5⟩ := hp
  constructor
  · cases x <;> first | exact absurd rfl (h1 _ _) | exact absurd rfl (h3 _) | exact absurd rfl (h4 _ _) | exact absurd rfl (h5 _ _ _) | simp [binOp, h]
  · cases x <;> first | exact absurd rfl (h1 _ _) | exact absurd rfl (h3 _) | exact absurd rfl (h4 _ _) | exact absurd rfl (h5 _ _ _) | simp [binOp, h]

theorem nilEq_ptr {t e : Nat} (he : P.underlying t = some (.pointer e)) (p : Addr) (w : World) : NilEq P w t (.pointer (some p)) (.pointer none) := by
  have h := equalIn_ptr he 9999 p w
  have e1 := eql_of (P := P) (x := .pointer (some p)) (y := .pointer none) (w := w) (t := t) (by simp) h.1
  have e2 := eql_of (P := P) (x := .pointer none) (y := .pointer (some p)) (w := w) (t := t) (by simp) h.2
  exact ⟨fun op x y => eqGuard_idle (by simp) (by simp) op x y w, fun op x y => eqGuard_idle (by simp) (by simp) op x y w, e1.1, e1.2, e2.1, e2.2⟩
theorem nilEq_sl {t e : Nat} (he : P.underlying t = some (.slice e)) (p : Addr) (m c m' c' : Nat) (w : World) : NilEq P w t (.slice (some p) m c) (.slice none m' c') := by
  have h := equalIn_sl he 9999 p m c m' c' w
  have e1 := eql_of (P := P) (x := .slice (some p) m c) (y := .slice none m' c') (w := w) (t := t) (by simp) h.1
  have e2 := eql_of (P := P) (x := .slice none m' c') (y := .slice (some p) m c) (w := w) (t := t) (by simp) h.2
  exact ⟨fun op x y => eqGuard_idle (by simp) (by simp) op x y w, fun op x y => eqGuard_idle (by simp) (by simp) op x y w, e1.1, e1.2, e2.1, e2.2⟩
theorem nilEq_fn {t : Nat} {ps rs : Array TypeId} {vr : Bool} (he : P.underlying t = some (.func ps rs vr)) (fn : Fn) (fi cc : Array Value) (w : World) : NilEq P w t (.func fn fi cc) .nilFunc := by
  have h := equalIn_fn he 9999 fn fi cc w
  have e1 := eql_of (P := P) (x := .func fn fi cc) (y := .nilFunc) (w := w) (t := t) (by simp) h.1
  have e2 := eql_of (P := P) (x := .nilFunc) (y := .func fn fi cc) (w := w) (t := t) (by simp) h.2
  exact ⟨fun op x y => eqGuard_idle (by simp) (by simp) op x y w, fun op x y => eqGuard_idle (by simp) (by simp) op x y w, e1.1, e1.2, e2.1, e2.2⟩

theorem eqnil_run {t kd : Nat} (ht : refT P t = some kd) {v z : AVal} {w : World} {G : Nat → Prop} {ρ : Names} {A : Allow} {H : Owner} (hr : HRel Γ w G ρ H) (hrd : ∀ id, id ∈ rdsOf v → ∃ B A', get id = some B ∧ H id = some (B, A') ∧ ∀ i, A' i → A i)
    {cv cz : Value} (hv : V w G ρ A v cv) (hz : V w G ρ A z cz) (hn : notNil get v = true) (hzz : nilLike z = true) (hk1 : kindOf v = kd) (hk2 : kindOf z = kd) : NilEq P w t cv cz := by
  have hlit : z = .lit cz := by
    cases z with
    | lit u => cases hz; rfl
    | _ => simp [nilLike] at hzz
  subst hlit
  clear hz
  have hown : ∀ id, id ∈ rdsOf v → ρ id ≠ none := fun id hid hn' => by
    obtain ⟨B, A', _, hH, _⟩ := hrd id hid
    obtain ⟨_, b, hb, _⟩ := hr.blk _ B A' hH
    rw [hb] at hn'; cases hn'
  unfold refT at ht
  split at ht
  · rename_i e he
    cases ht
    have hcz : cz = .pointer none := by
      cases cz with
      | pointer a => cases a with
        | none => rfl
        | some => simp [nilLike] at hzz
      | slice a m c => simp [kindOf] at hk2
      | nilFunc => simp [kindOf] at hk2
      | _ => simp [nilLike] at hzz
    subst hcz
    cases hv with
    | dang _ hn' => exact absurd hn' (hown _ (by simp [rdsOf]))
    | ptr => exact nilEq_ptr he _ w
    | rp => exact nilEq_ptr he _ w
    | junk => simp [notNil] at hn
    | lit => simp [notNil] at hn
    | agg => simp [notNil] at hn
    | tup => simp [notNil] at hn
    | dangs => simp [kindOf] at hk1
    | sl => simp [kindOf] at hk1
    | rd0 => simp [kindOf] at hk1
    | rd => simp [kindOf] at hk1
    | fn => simp [kindOf] at hk1
  · rename_i e he
    cases ht
    obtain ⟨m, c, hcz⟩ : ∃ m c, cz = .slice none m c := by
      cases cz with
      | slice a m c => cases a with
        | none => exact ⟨m, c, rfl⟩
        | some => simp [nilLike] at hzz
      | pointer a => simp [kindOf] at hk2
      | nilFunc => simp [kindOf] at hk2
      | _ => simp [nilLike] at hzz
    subst hcz
    cases hv with
    | dangs _ hn' => exact absurd hn' (hown _ (by simp [rdsOf]))
    | sl => exact nilEq_sl he _ _ _ _ _ w
    | rd => exact nilEq_sl he _ _ _ _ _ w
    | rd0 => simp [notNil] at hn
    | junk => simp [notNil] at hn
    | lit => simp [notNil] at hn
    | agg => simp [notNil] at hn
    | tup => simp [notNil] at hn
    | dang => simp [kindOf] at hk1
    | ptr => simp [kindOf] at hk1
    | rp => simp [kindOf] at hk1
    | fn => simp [kindOf] at hk1
  · rename_i ps rs vr he
    cases ht
    have hcz : cz = .nilFunc := by
      cases cz with
      | nilFunc => rfl
      | pointer a => simp [kindOf] at hk2
      | slice a m c => simp [kindOf] at hk2
      | _ => simp [nilLike] at hzz
    subst hcz
    cases hv with
    | fn => exact nilEq_fn he _ _ _ w
    | junk => simp [notNil] at hn
    | lit => simp [notNil] at hn
    | agg => simp [notNil] at hn
    | tup => simp [notNil] at hn
    | dang => simp [kindOf] at hk1
    | dangs => simp [kindOf] at hk1
    | ptr => simp [kindOf] at hk1
    | sl => simp [kindOf] at hk1
    | rp => simp [kindOf] at hk1
    | rd0 => simp [kindOf] at hk1
    | rd => simp [kindOf] at hk1
  · cases ht

theorem eqnil_ok {t ty kd : Nat} {x y : Operand} {v z : AVal} {neg : Bool} (ho : o.op = .binOp (if neg then .neq else .eql) t x y ty) (ht : refT P t = some kd) (hxy : (ev x = some v ∧ ev y = some z) ∨ (ev x = some z ∧ ev y = some v))
    (hn : notNil get v = true) (hzz : nilLike z = true) (hk1 : kindOf v = kd) (hk2 : kindOf z = kd) : OpOk P Γ o ev get k ⟨.lit (.bool neg), k, [], rdsOf v⟩ := by
  refine OpOk_quiet fun w G ρ H A a hr hrd hop => ⟨.bool neg, ?_, .lit⟩
  have hmx : x ∈ o.op.operands := by cases neg <;> simp [ho, Op.operands]
  have hmy : y ∈ o.op.operands := by cases neg <;> simp [ho, Op.operands]
  rcases hxy with ⟨hx, hy⟩ | ⟨hx, hy⟩
  · obtain ⟨h3, _, h5, h6, _, _⟩ := eqnil_run (P := P) ht hr hrd (hop x hmx v hx) (hop y hmy z hy) hn hzz hk1 hk2
    cases neg <;> simp [execOp, ho, h3, h5, h6]
  · obtain ⟨_, h4, _, _, h7, h8⟩ := eqnil_run (P := P) ht hr hrd (hop y hmy v hy) (hop x hmx z hx) hn hzz hk1 hk2
    cases neg <;> simp [execOp, ho, h4, h7, h8]

/- structs -/
def tagOf (P : Program) (t : TypeId) : Option Nat :=
  match P.underlying t with
  | some (.int _) => some 0
  | some .bool => some 1
  | some .string => some 2
  | _ => none
def eqOffs (P : Program) (t : TypeId) : Option (List (Nat × Nat)) :=
  match P.underlying t with
  | some (.struct fs) => if P.stoodInHeld t || P.eqGuardType P.depth t || fs.any (·.name == "_") then none else fs.toList.mapM fun f => (tagOf P f.type).map fun g => (f.offset, g)
  | _ => none
def eqLit : Nat → Value → Value → Option Bool
  | 0, .int k a, .int k' b => if k = k' then some (a == b) else none
  | 1, .bool a, .bool b => some (a == b)
  | 2, .string a, .string b => some (a == b)
  | _, _, _ => none
def eqCells (xs ys : List Value) : List (Nat × Nat) → Option Bool
  | [] => some true
  | (off, g) :: r => match xs[off]?, ys[off]? with
    | some a, some b => match eqLit g a b, eqCells xs ys r with
      | some p, some q => some (p && q)
      | _, _ => none
    | _, _ => none

theorem eqLit_run {t g d : Nat} (ht : tagOf P t = some g) {a b : Value} {p : Bool} (h : eqLit g a b = some p) (w : World) : (Op.equalIn (d + 1) t a b).run P w = .ok p w := by
  unfold tagOf at ht
  split at ht
  · rename_i kk hu
    cases ht
    cases a <;> cases b <;> simp [eqLit] at h
    obtain ⟨rfl, rfl⟩ := h
    simp [Op.equalIn, run_underlying hu]
  · rename_i hu
    cases ht
    cases a <;> cases b <;> simp [eqLit] at h
    subst h
    simp [Op.equalIn, run_underlying hu]
  · rename_i hu
    cases ht
    cases a <;> cases b <;> simp [eqLit] at h
    subst h
    simp [Op.equalIn, run_underlying hu]
  · cases ht

theorem tag_part {t g : Nat} (ht : tagOf P t = some g) {cs : Array Value} {off : Nat} {u : Value} (h : cs[off]? = some u) (w : World) : (part t cs off).run P w = .ok u w := by
  have : ∃ d, P.underlying t = some d ∧ d.isRow = false := by
    unfold tagOf at ht
    split at ht
    · exact ⟨_, ‹_›, rfl⟩
    · exact ⟨_, ‹_›, rfl⟩
    · exact ⟨_, ‹_›, rfl⟩
    · cases ht
  obtain ⟨d, hd, hdr⟩ := this
  have hagg : (isAgg t).run P w = .ok false w := by
    unfold isAgg
    rw [Sem.run_bind, run_underlying hd w]
    cases d <;> simp_all
  simp [part, hagg, h]

theorem eqFields_run {d : Nat} (xs ys : List Value) : ∀ (fs : List Field) (offs : List (Nat × Nat)) (p : Bool), (∀ f ∈ fs, f.name ≠ "_") → (fs.mapM fun f => (tagOf P f.type).map fun g => (f.offset, g)) = some offs → eqCells xs ys offs = some p →
    ∀ w, (Op.eqFields (d + 1) xs.toArray ys.toArray fs).run P w = .ok p w := by
  intro fs
  induction fs with
  | nil =>
    intro offs p _ hm he w
    simp at hm; subst hm
    simp [eqCells] at he; subst he
    simp [Op.eqFields]
  | cons f fs ih =>
    intro offs p hn hm he w
    rw [List.mapM_cons] at hm
    simp only [Option.bind_eq_bind, Option.bind_eq_some_iff, Option.map_eq_some_iff] at hm
    obtain ⟨x, ⟨g, hg, rfl⟩, offs', hm', hp⟩ := hm
    cases hp
    simp only [eqCells] at he
    split at he
    · rename_i a b ha hb
      split at he
      · rename_i p1 q1 h1 h2
        cases he
        have r1 := tag_part hg (cs := xs.toArray) (by rw [List.getElem?_toArray]; exact ha) w
        have r2 := tag_part hg (cs := ys.toArray) (by rw [List.getElem?_toArray]; exact hb) w
        have r3 := eqLit_run (d := d) hg h1 w
        have r4 := ih offs' q1 (fun f hf => hn f (List.mem_cons_of_mem _ hf)) hm' h2 w
        simp only [Op.eqFields, if_pos (hn f (by simp)), Sem.run_bind, r1, r2, r3, Result.andThen_ok]
        cases p1 <;> simp [r4]
      · cases he
    · cases he

theorem eqagg_ok {t ty : Nat} {x y : Operand} {xc yc : List AVal} {xs ys : List Value} {offs : List (Nat × Nat)} {p neg : Bool} (ho : o.op = .binOp (if neg then .neq else .eql) t x y ty) (ht : eqOffs P t = some offs)
    (hx : ev x = some (.agg xc)) (hy : ev y = some (.agg yc)) (hxs : litsOf xc = some xs) (hys : litsOf yc = some ys) (he : eqCells xs ys offs = some p) : OpOk P Γ o ev get k ⟨.lit (.bool (if neg then !p else p)), k, [], []⟩ := by
  refine OpOk_quiet fun w G ρ H A a hr hrd hop => ⟨.bool (if neg then !p else p), ?_, .lit⟩
  have hmx : x ∈ o.op.operands := by cases neg <;> simp [ho, Op.operands]
  have hmy : y ∈ o.op.operands := by cases neg <;> simp [ho, Op.operands]
  have ex : a.eval x = .agg xs.toArray := toVal_V (hop x hmx _ hx) (by simp [toVal, hxs])
  have ey : a.eval y = .agg ys.toArray := toVal_V (hop y hmy _ hy) (by simp [toVal, hys])
  unfold eqOffs at ht
  split at ht
  · rename_i fs hu
    split at ht
    · cases ht
    · rename_i hc
      simp only [Bool.or_eq_true, not_or, Bool.not_eq_true] at hc
      obtain ⟨⟨h1, h2⟩, h3⟩ := hc
      have hfs : P.fieldsOf t = fs := by simp [Program.fieldsOf, hu]
      have hnm : ∀ f ∈ fs.toList, f.name ≠ "_" := fun f hf he => by
        have := Array.any_eq_false'.1 h3 f (by simpa using hf)
        simp [he] at this
      have hrun := eqFields_run (P := P) (d := 9998) xs ys fs.toList offs p hnm ht he w
      have hstr := run_equalIn_struct (P := P) w 9999 t xs.toArray ys.toArray (by rw [hfs]; exact hu) h1
      rw [hfs, hrun] at hstr
      have hg := fun op => run_eqGuard_agg (P := P) w op t x y xs.toArray ys.toArray h2
      cases neg
      · simp only [execOp, ho, ex, ey, Bool.false_eq_true, if_false, Sem.run_bind, hg, Result.andThen_ok, run_eql_struct, hstr, Sem.run_pure]
      · simp only [execOp, ho, ex, ey, if_true, Sem.run_bind, hg, Result.andThen_ok, run_neq_struct, hstr, Sem.run_pure]
  · cases ht

/- append -/
theorem one_row_one {rows : List (List AVal)} (h : (rows.all fun row => row.all one) = true) : rowsOne rows := fun _ _ _ _ h1 h2 => all_get (all_get h h1) h2

/-- the source of an append -/
inductive SrcA (get : Nat → Option Blk) : AVal → Nat → Nat → List (List AVal) → Bool → List Nat → Prop
  | rd {s m f} : SrcA get (.rd s m f) s m ((List.range m).map f) true []
  | sl {id r m B} : get id = some B → r + m ≤ B.rows.length → SrcA get (.sl id r m) B.sz m ((B.rows.drop r).take m) B.pure [id]
  | nil : SrcA get (.lit (.slice none 0 0)) 0 0 [] true []

theorem SrcA.src {v : AVal} {s m : Nat} {rows : List (List AVal)} {p : Bool} {ids : List Nat} (h : SrcA get v s m rows p ids) {w : World} {G : Nat → Prop} {ρ : Names} {H : Owner} {A : Allow} {cv : Value} (hr : HRel Γ w G ρ H)
    (hrd : ∀ id, id ∈ ids → ∃ B A', get id = some B ∧ H id = some (B, A') ∧ ∀ i, A' i → A i) (hv : V w G ρ A v cv) : Src w G ρ A s m rows p cv := by
  cases h with
  | nil => exact ⟨rfl, fun r row h => by simp at h, fun h => by omega⟩
  | rd =>
    rename_i f
    cases hv with
    | rd0 => exact ⟨by simp, fun r row h => by simp at h, fun h => by omega⟩
    | rd g hb hcap hn hl hc hvv =>
      have hget : ∀ (r : Nat) row, ((List.range m).map f)[r]? = some row → r < m ∧ row = f r := fun r row h => by
        rw [List.getElem?_map] at h
        simp only [Option.map_eq_some_iff] at h
        obtain ⟨i, hi, rfl⟩ := h
        obtain ⟨hlt, he⟩ := List.getElem?_eq_some_iff.1 hi
        simp at he hlt
        subst he
        exact ⟨hlt, rfl⟩
      refine ⟨by simp, fun r row h => ?_, fun _ => ⟨_, _, _, rfl, g, fun r row c v h1 h2 => ?_⟩⟩
      · obtain ⟨h1, rfl⟩ := hget r row h; exact hl r h1
      · obtain ⟨h3, rfl⟩ := hget r row h1
        exact ⟨hc r c v h3 h2, by simp only [if_true]; exact hvv r c v h3 h2⟩
  | sl hB hle =>
    rename_i id r B
    obtain ⟨B', A', h1, hH, hAA⟩ := hrd id (by simp)
    rw [hB] at h1; cases h1
    obtain ⟨_, b, hb, _, ⟨⟨C, ty, hC, hrows⟩, hlen⟩⟩ := hr.blk id B A' hH
    have hget : ∀ (q : Nat) row, ((B.rows.drop r).take m)[q]? = some row → B.rows[r + q]? = some row := fun q row h => by
      rw [List.getElem?_take] at h
      split at h
      · rw [List.getElem?_drop] at h; exact h
      · cases h
    cases hv with
    | dangs _ hn => rw [hb] at hn; cases hn
    | sl ha hρ hsh hm hn hc hoff =>
      rw [hb] at hρ; cases hρ
      refine ⟨by simp; omega, fun q row h => hlen _ row (hget q row h), fun hm0 => ⟨_, _, _, rfl, fun q c => C.getD ((r + q) * B.sz + c) undef, fun q row c v h1 h2 => ?_⟩⟩
      have hoff' := hoff.resolve_left (by omega)
      subst hoff'
      obtain ⟨cu, h3, h4⟩ := hrows _ row c v (hget q row h1) h2
      have e : C.getD ((r + q) * B.sz + c) undef = cu := by rw [Array.getD_eq_getD_getElem?, h3]; rfl
      show w.cell? ⟨b, r * B.sz + q * B.sz + c, none⟩ = some (C.getD ((r + q) * B.sz + c) undef) ∧ V w G (if B.pure then noNames else ρ) (if B.pure then noAllow else A) v (C.getD ((r + q) * B.sz + c) undef)
      rw [e]
      refine ⟨?_, ?_⟩
      · rw [cell_of_row w b _ C ty (0, 0) hC, ← h3]
        congr 1
        rw [Nat.add_mul]
      · by_cases hp : B.pure = true
        · simp only [hp, if_true] at h4 ⊢; exact h4
        · simp only [hp] at h4 ⊢; exact h4.mono (fun _ h => h) (fun _ _ => rfl) (fun _ _ => rfl) hAA (fun _ _ => .inr rfl)

theorem run_append0 (w : World) (t ty e : TypeId) (i : TypeInfo) (ht : P.underlying t = some (.slice e)) (hi : P.info? e = some i) (base q : Option Addr) (n cap c : Nat) (h : n ≤ cap) :
    (Builtin.append_ #[t, t] ty #[.slice base n cap, .slice q 0 c]).run P w = .ok (.slice base n cap) w := by
  cases base <;> cases q <;> simp [Builtin.append_, run_underlying ht, sizeOf, typeInfo, hi, Builtin.lenOf, h, Builtin.firstCells, loadCells, loadCellsFrom, storeCells]
/-- append of nothing -/
theorem append0_ok {t s s' by' : Nat} {x y : Operand} {u v : AVal} {zrow : List AVal} {rows : List (List AVal)} {p : Bool} {ids idx : List Nat} (ho : o.op = .call { callee := .builtin .append, args := #[x, y], argTypes := #[t, t] }) (hz : ezero P t = some (s, by', zrow))
    (hx : ev x = some u) (hy : ev y = some v) (hu : (u = .lit (.slice none 0 0) ∧ idx = []) ∨ (∃ s1 n f, u = .rd s1 n f ∧ idx = []) ∨ (∃ id r n, u = .sl id r n ∧ idx = [id] ∧ (get id).isSome = true)) (hs : SrcA get v s' 0 rows p ids) :
    OpOk P Γ o ev get k ⟨u, k, [], idx ++ ids⟩ := by
  refine OpOk_quiet fun w G ρ H A a hr hrd hop => ?_
  have hvx := hop x (by simp [ho, Op.operands, Call.operands]) _ hx
  have hvy := hop y (by simp [ho, Op.operands, Call.operands]) _ hy
  have hxs : ∃ base n cap, a.eval x = .slice base n cap ∧ n ≤ cap := by
    generalize a.eval x = cv at hvx
    rcases hu with ⟨rfl, _⟩ | ⟨s1, n, f, rfl, _⟩ | ⟨id, r, n, rfl, he, hg⟩
    · cases hvx; exact ⟨_, _, _, rfl, Nat.le_refl _⟩
    · cases hvx with
      | rd0 => exact ⟨_, _, _, rfl, Nat.zero_le _⟩
      | rd _ _ hcap => exact ⟨_, _, _, rfl, hcap⟩
    · obtain ⟨B', A', h2, hH, _⟩ := hrd id (by simp [he])
      obtain ⟨_, b, hb, _⟩ := hr.blk id B' A' hH
      cases hvx with
      | dangs _ hn => rw [hb] at hn; cases hn
      | sl _ _ _ _ h5 => exact ⟨_, _, _, rfl, h5⟩
  have hys : ∃ q c, a.eval y = .slice q 0 c := by
    generalize a.eval y = cv at hvy
    cases hs with
    | nil => cases hvy; exact ⟨_, _, rfl⟩
    | rd => cases hvy with
      | rd0 => exact ⟨_, _, rfl⟩
      | rd => exact ⟨_, _, rfl⟩
    | sl hB hle =>
      rename_i id r B
      obtain ⟨B', A', h2, hH, _⟩ := hrd id (by simp)
      obtain ⟨_, b, hb, _⟩ := hr.blk id B' A' hH
      cases hvy with
      | dangs _ hn => rw [hb] at hn; cases hn
      | sl => exact ⟨_, _, rfl⟩
  obtain ⟨base, n, cap, ex, hcap⟩ := hxs
  obtain ⟨q, c, ey⟩ := hys
  unfold ezero at hz
  split at hz
  · rename_i e he
    split at hz
    · rename_i i hi
      rw [ex] at hvx
      refine ⟨.slice base n cap, ?_, hvx⟩
      have := run_append0 (P := P) w t o.type e i he hi base q n cap c hcap
      simp only [execOp, ho, resolve, invoke, builtin, List.map_toArray, List.map_cons, List.map_nil, ex, ey, Sem.run_bind, Sem.run_pure, Result.andThen_ok, this]
    · cases hz
  · cases hz

theorem append_nil_ok {t s by' m : Nat} {x y : Operand} {v : AVal} {zrow : List AVal} {rows : List (List AVal)} {p : Bool} {ids : List Nat} (ho : o.op = .call { callee := .builtin .append, args := #[x, y], argTypes := #[t, t] }) (hz : ezero P t = some (s, by', zrow))
    (hx : ev x = some (.lit (.slice none 0 0))) (hy : ev y = some v) (hs : SrcA get v s m rows p ids) (hm : 0 < m) (hlen : m ≤ 9223372036854775807) (hby : m * by' ≤ 140737488355328) (hone : (rows.all fun row => row.all one) = true) :
    OpOk P Γ o ev get k ⟨.sl k 0 m, k + 1, [(k, some ⟨s, p, rows⟩)], ids⟩ := by
  have := append_core (P := P) (Γ := Γ) (o := o) (ev := ev) (get := get) (k := k) (n := 0) (olds := []) (pd := true) (idd := none) (rds := ids) ho hz hm (by omega) (by rw [Nat.zero_add]; exact hby) (one_row_one hone) (fun id h => by cases h)
    (fun w G ρ H A a hr hrd hop => .inl ⟨rfl, rfl, rfl, V_bool (hop x (by simp [ho, Op.operands, Call.operands]) _ hx)⟩) (fun w G ρ H A a hr hrd hop => hs.src hr hrd (hop y (by simp [ho, Op.operands, Call.operands]) _ hy))
  simpa using this

theorem append_sl_ok {t s by' m n id : Nat} {x y : Operand} {v : AVal} {B : Blk} {zrow : List AVal} {rows : List (List AVal)} {p : Bool} {ids : List Nat} (ho : o.op = .call { callee := .builtin .append, args := #[x, y], argTypes := #[t, t] }) (hz : ezero P t = some (s, by', zrow))
    (hx : ev x = some (.sl id 0 n)) (hB : get id = some B) (hBs : B.sz = s) (hBn : B.rows.length = n) (hk : id < k) (hy : ev y = some v) (hs : SrcA get v s m rows p ids) (hm : 0 < m) (hlen : n + m ≤ 9223372036854775807) (hby : (n + m) * by' ≤ 140737488355328) (hone : (rows.all fun row => row.all one) = true) :
    OpOk P Γ o ev get k ⟨.sl k 0 (n + m), k + 1, [(k, some ⟨s, B.pure && p, B.rows ++ rows⟩), (id, none)], id :: ids⟩ := by
  have := append_core (P := P) (Γ := Γ) (o := o) (ev := ev) (get := get) (k := k) (n := n) (olds := B.rows) (pd := B.pure) (idd := some id) (rds := id :: ids) ho hz hm hlen hby (one_row_one hone) (fun id' h => by cases h; exact hk)
    (fun w G ρ H A a hr hrd hop => by
      obtain ⟨B', A', h1, h2, h3⟩ := hrd id (by simp)
      rw [hB] at h1; cases h1
      exact .inr ⟨id, B, A', rfl, h2, h3, hBs, rfl, rfl, hBn, hop x (by simp [ho, Op.operands, Call.operands]) _ hx⟩)
    (fun w G ρ H A a hr hrd hop => hs.src hr (fun i hi => hrd i (List.mem_cons_of_mem _ hi)) (hop y (by simp [ho, Op.operands, Call.operands]) _ hy))
  simpa using this
end
end Go.AM
end

section
/-
  The abstract machine, part 14: saying less; freezing a block; contracts of pure functions.
-/
namespace Go.AM

/-- v' says no more than v -/
def VLe (v v' : AVal) : Prop := ∀ w G ρ A cv, V w G ρ A v cv → V w G ρ A v' cv
theorem VLe.refl (v : AVal) : VLe v v := fun _ _ _ _ _ h => h
theorem VLe.junk (v : AVal) : VLe v .junk := fun _ _ _ _ _ _ => .junk
theorem VLe.rd {sz n : Nat} {f g : Nat → List AVal} (h : ∀ i, i < n → f i = g i) : VLe (.rd sz n f) (.rd sz n g) := fun w G ρ A cv hv => by
  cases hv with
  | rd0 => exact .rd0
  | rd gg hb hcap hn hl hc hvv => exact .rd gg hb hcap hn (fun i hi => by rw [← h i hi]; exact hl i hi) (fun i j v hi hj => hc i j v hi (by rw [h i hi]; exact hj)) (fun i j v hi hj => hvv i j v hi (by rw [h i hi]; exact hj))
theorem VLe.agg {cs ds : List AVal} (hl : cs.length = ds.length) (h : ∀ (j : Nat) u v, cs[j]? = some u → ds[j]? = some v → VLe u v) : VLe (.agg cs) (.agg ds) := fun w G ρ A cv hv => by
  cases hv with
  | agg h1 h2 =>
    refine .agg (by omega) fun j v hj => ?_
    · have hlt := (List.getElem?_eq_some_iff.1 hj).1
      have hu : cs[j]? = some cs[j] := List.getElem?_eq_getElem (by omega)
      exact h j _ v hu hj _ _ _ _ _ (h2 j _ hu)

/-- the block B' says no more than B -/
structure BLe (B B' : Blk) : Prop where
  sz : B'.sz = B.sz
  rows : ∀ (r : Nat) row', B'.rows[r]? = some row' → ∃ row, B.rows[r]? = some row ∧ row.length = row'.length ∧ ∀ (c : Nat) u v, row[c]? = some u → row'[c]? = some v → VLe u v
  pure : B'.pure = true → B.pure = true ∨ (B'.rows.all fun row => row.all clean) = true
theorem BLe.refl (B : Blk) : BLe B B := ⟨rfl, fun r row h => ⟨row, h, rfl, fun c u v h1 h2 => by rw [h1] at h2; cases h2; exact VLe.refl _⟩, fun h => .inl h⟩

section
variable {P : Program} {Γ : List (Nat × List AVal)} {nt kb : Nat} {Q Q' : AQ} {k : Nat} {fr : Fr} {H : Heap}

structure WkG (kb k : Nat) (fr : Fr) (H : Heap) (k1 : Nat) (fr1 : Fr) (H1 : Heap) : Prop where
  base : kb ≤ k1
  frm : ∀ t v, look fr1 t = some v → ∃ u, look fr t = some u ∧ VLe u v
  heap : ∀ id B, look H1 id = some B → ∃ C, look H id = some C ∧ BLe C B
  bound : k1 = k ∨ (bdF (ltB k1) fr1 = true ∧ bdH (ltB k1) H1 = true)

theorem BRel.le {w : World} {G : Nat → Prop} {ρ : Names} {A : Allow} {B B' : Blk} {b : Nat} (h : BRel w G ρ A B b) (hl : BLe B B') : BRel w G ρ A B' b := by
  obtain ⟨⟨C, ty, hC, hrows⟩, hlen⟩ := h
  refine ⟨⟨C, ty, hC, fun r row' c v h1 h2 => ?_⟩, fun r row' h1 => ?_⟩
  · obtain ⟨row, h3, h4, h5⟩ := hl.rows r row' h1
    have hlt := (List.getElem?_eq_some_iff.1 h2).1
    have hu : row[c]? = some row[c] := List.getElem?_eq_getElem (by omega)
    obtain ⟨cv, h6, h7⟩ := hrows r row c _ h3 hu
    refine ⟨cv, by rw [hl.sz]; exact h6, ?_⟩
    have h8 := h5 c _ v hu h2 _ _ _ _ _ h7
    by_cases hp' : B'.pure = true
    · simp only [hp', if_true]
      rcases hl.pure hp' with hp | hp
      · simp only [hp, if_true] at h8; exact h8
      · exact clean_V h8 (all_get (all_get hp h1) h2)
    · simp only [hp']
      by_cases hp : B.pure = true
      · simp only [hp, if_true] at h8; exact h8.weaken
      · simp only [hp] at h8; exact h8
  · obtain ⟨row, h3, h4, _⟩ := hl.rows r row' h1
    rw [hl.sz, ← h4]; exact hlen r row h3

theorem WkG.inv {A0 : Allow} {w : World} {G : Nat → Prop} {ρ : Names} {a : Act} {k1 : Nat} {fr1 : Fr} {H1 : Heap} (hw : WkG kb k fr H k1 fr1 H1) (hi : Inv Γ nt w G ρ (alw A0 kb k) a fr H) :
    ∃ ρ', Inv Γ nt w G ρ' (alw A0 kb k1) a fr1 H1 ∧ ∀ A, Step A w G ρ w G ρ' := by
  let ρ' : Names := fun id => match look H1 id with | some _ => ρ id | none => none
  have hρ : ∀ id, ρ' id = none ∨ ρ' id = ρ id := fun id => by
    simp only [ρ']; split
    · exact .inr rfl
    · exact .inl rfl
  have hsome : ∀ id x, ρ' id = some x → ρ id = some x ∧ ∃ B, look H1 id = some B := fun id x h => by
    simp only [ρ'] at h; split at h
    · rename_i B hB; exact ⟨h, B, hB⟩
    · cases h
  have hV : ∀ v cv, V w G ρ (alw A0 kb k) v cv → V w G ρ' (alw A0 kb k) v cv := fun v cv h =>
    h.mono (fun _ h => h) (fun _ _ => rfl) (fun _ _ => rfl) (fun _ h => h) (fun id _ => hρ id)
  have hlow : ∀ i, alw A0 kb k i → i < k1 → alw A0 kb k1 i := fun i h1 h2 => by
    rcases h1 with h1 | h1
    · exact .inl h1
    · exact .inr ⟨h1.1, h2⟩
  have hVl : ∀ v cv, V w G ρ' (fun i => alw A0 kb k i ∧ ltB k1 i = true) v cv → V w G ρ' (alw A0 kb k1) v cv := fun v cv h =>
    h.mono (fun _ h => h) (fun _ _ => rfl) (fun _ _ => rfl) (fun i h => hlow i h.1 (of_decide_eq_true h.2)) (fun _ _ => .inr rfl)
  refine ⟨ρ', ⟨⟨?_, ?_, ?_, hi.rel.ro, hi.rel.glob⟩, hi.size, hi.defers, ?_⟩, fun A => ⟨Nat.le_refl _, fun _ _ _ => rfl, fun _ _ => rfl, fun _ h => h, fun _ h => .inl h, ?_, fun id _ => hρ id, rfl, rfl, rfl⟩⟩
  · intro id h
    simp only [ofHeap, Option.map_eq_none_iff] at h
    simp only [ρ', h]
  · intro id B A h
    simp only [ofHeap, Option.map_eq_some_iff] at h
    obtain ⟨B', hB, he⟩ := h
    cases he
    obtain ⟨C0, hl, hle⟩ := hw.heap id B hB
    obtain ⟨hlt, b, hb, hg, hBR0⟩ := hi.rel.blk id C0 (alw A0 kb k) (by simp [ofHeap, hl])
    have hBR := hBR0.le hle
    refine ⟨?_, b, by simp only [ρ', hB, hb, hle.sz], hg, ?_⟩
    · rcases hw.bound with rfl | ⟨_, hh⟩
      · exact hlt
      · have := look_all hh hB
        simp only [Bool.and_eq_true] at this
        exact hlow _ hlt (of_decide_eq_true this.1)
    · obtain ⟨⟨C, ty, hC, hrows⟩, hlen⟩ := hBR
      refine ⟨⟨C, ty, hC, fun r row c v hr hc => ?_⟩, hlen⟩
      obtain ⟨cv, h1, h2⟩ := hrows r row c v hr hc
      refine ⟨cv, h1, ?_⟩
      by_cases hp : B.pure = true
      · simp only [hp, if_true] at h2 ⊢; exact h2
      · simp only [hp] at h2 ⊢
        have h3 := hV v cv h2
        rcases hw.bound with rfl | ⟨_, hh⟩
        · exact h3
        · have := look_all hh hB
          simp only [Bool.and_eq_true, Bool.or_eq_true] at this
          have h5 := this.2.resolve_left hp
          have h4 := all_get (all_get h5 hr) hc
          exact hVl _ _ (V_bd0 h3 h4)
  · intro i j b s t h1 h2
    exact hi.rel.inj i j b s t (hsome _ _ h1).1 (hsome _ _ h2).1
  · intro t v h
    obtain ⟨u, hu, hle⟩ := hw.frm t v h
    have h1 := hV _ _ (hle _ _ _ _ _ (hi.frm t u hu))
    rcases hw.bound with rfl | ⟨hf, _⟩
    · exact h1
    · exact hVl _ _ (V_bd h1 (look_all hf h))
  · rintro b ⟨id, s, hb⟩
    exact .inl ⟨id, s, (hsome _ _ hb).1⟩

theorem W_weakenG {c : Code} {k1 : Nat} {fr1 : Fr} {H1 : Heap} (hw : WkG kb k fr H k1 fr1 H1) (h : W P Γ nt kb c Q k1 fr1 H1) : W P Γ nt kb c Q k fr H := fun A0 hA0 _ w G ρ a hi => by
  obtain ⟨ρ', hi', hs⟩ := hw.inv hi
  exact wp_mono (h A0 hA0 hw.base w G ρ' a hi') fun _ _ _ hp => Post.trans (hs _) hp

def upG (kb : Nat) (Q : AQ) : AQ := fun e k fr H => ∃ k1 fr1 H1, WkG kb k fr H k1 fr1 H1 ∧ Q e k1 fr1 H1
theorem W_upG {c : Code} (h : W P Γ nt kb c (upG kb Q) k fr H) : W P Γ nt kb c Q k fr H := fun A0 hA0 hk w G ρ a hi =>
  wp_mono (h A0 hA0 hk w G ρ a hi) fun e a' w' hp => by
    obtain ⟨G', ρ', k', fr', H', ⟨k1, fr1, H1, hw, hQ⟩, hk', hi', hst⟩ := hp
    obtain ⟨ρ1, hi1, hs1⟩ := hw.inv hi'
    exact ⟨G', ρ1, k1, fr1, H1, hQ, hw.base, hi1, hst.trans (hs1 (below kb)) (fun _ h => h)⟩

/- Freezing: an owned block of values without names becomes read-only. -/
def frz0 (id : Nat) (B : Blk) : AVal → AVal
  | .sl i r n => if i = id ∧ r + n ≤ B.rows.length then .rd B.sz n (fun j => B.rows.getD (r + j) []) else .sl i r n
  | .ptr i r c => if i = id ∧ r < B.rows.length then .rp ((B.rows.getD r []).drop c) else .ptr i r c
  | v => v
def frz (id : Nat) (B : Blk) : AVal → AVal
  | .agg cs => .agg (cs.map (frz0 id B))
  | .fn f cs => .fn f (cs.map (frz0 id B))
  | v => frz0 id B v
def frzF (id : Nat) (B : Blk) (fr : Fr) : Fr := fr.map fun x => (x.1, frz id B x.2)
def frzB (id : Nat) (B : Blk) (C : Blk) : Blk := if C.pure then C else ⟨C.sz, false, C.rows.map fun row => row.map (frz0 id B)⟩
def frzH (id : Nat) (B : Blk) (H : Heap) : Heap := (del H id).map fun x => (x.1, frzB id B x.2)

theorem look_map {α β : Type} (f : α → β) : ∀ (l : List (Nat × α)) (i : Nat), look (l.map fun x => (x.1, f x.2)) i = (look l i).map f
  | [], i => rfl
  | (a, x) :: r, i => by
    simp only [List.map_cons, look]
    by_cases h : a = i
    · rw [if_pos h, if_pos h]; rfl
    · rw [if_neg h, if_neg h]; exact look_map f r i

theorem frz0_V {w : World} {G G' : Nat → Prop} {ρ : Names} {A A' : Allow} {id b : Nat} {B : Blk} (hG : ∀ x, G x → G' x) (hGb : G' b) (hρ : ρ id = some (b, B.sz)) (hB : BRel w G ρ A B b) (hp : B.pure = true) {v : AVal} {cv : Value} (hv : V w G ρ A' v cv) :
    V w G' (setN ρ id none) A' (frz0 id B v) cv := by
  have base : ∀ u cu, V w G ρ A' u cu → V w G' (setN ρ id none) A' u cu := fun u cu h =>
    h.mono hG (fun _ _ => rfl) (fun _ _ => rfl) (fun _ h => h) (fun i _ => by
      simp only [setN]; split
      · exact .inl rfl
      · exact .inr rfl)
  cases hv with
  | sl ha hr hsh hm hn hc hoff =>
    rename_i i r n b' s ty m cap off
    simp only [frz0]
    split
    · rename_i hcond
      obtain ⟨rfl, hle⟩ := hcond
      rw [hρ] at hr; cases hr
      by_cases hn0 : n = 0
      · subst hn0; exact .rd0
      · have hoff' := hoff.resolve_left (by omega)
        subst hoff'
        obtain ⟨⟨C, ty', hC, hrows⟩, hlen⟩ := hB
        have hrow : ∀ j, j < n → B.rows[r + j]? = some (B.rows.getD (r + j) []) := fun j hj => by
          rw [List.getD_eq_getElem?_getD, List.getElem?_eq_getElem (by omega)]; rfl
        refine .rd (fun j c => C.getD ((r + j) * B.sz + c) undef) hGb hn (by omega) (fun j hj => hlen _ _ (hrow j hj)) (fun j c v hj hc' => ?_) (fun j c v hj hc' => ?_)
        · obtain ⟨cu, h1, _⟩ := hrows _ _ c v (hrow j hj) hc'
          rw [cell_of_row w b _ C ty' (0, 0) hC]
          have e : r * B.sz + j * B.sz + c = (r + j) * B.sz + c := by rw [Nat.add_mul]
          rw [e, h1, Array.getD_eq_getD_getElem?, h1]; rfl
        · obtain ⟨cu, h1, h2⟩ := hrows _ _ c v (hrow j hj) hc'
          simp only [hp, if_true] at h2
          have e : C.getD ((r + j) * B.sz + c) undef = cu := by rw [Array.getD_eq_getD_getElem?, h1]; rfl
          rw [e]
          exact h2.mono hG (fun _ _ => rfl) (fun _ _ => rfl) (fun _ h => h) (fun _ h => h.elim)
    · exact base _ _ (.sl ha hr hsh hm hn hc hoff)
  | dangs ha hr =>
    rename_i i r n x m c
    simp only [frz0]
    split
    · rename_i hcond
      obtain ⟨rfl, _⟩ := hcond
      rw [hρ] at hr; cases hr
    · exact base _ _ (.dangs ha hr)
  | junk => exact base _ _ .junk
  | lit => exact base _ _ .lit
  | dang ha hr =>
    rename_i i r c x
    simp only [frz0]
    split
    · rename_i hcond
      obtain ⟨rfl, _⟩ := hcond
      rw [hρ] at hr; cases hr
    · exact base _ _ (.dang ha hr)
  | ptr ha hr =>
    rename_i i r c b' s
    simp only [frz0]
    split
    · rename_i hcond
      obtain ⟨rfl, hlt⟩ := hcond
      rw [hρ] at hr; cases hr
      obtain ⟨⟨C, ty', hC, hrows⟩, hlen⟩ := hB
      have hrow : B.rows[r]? = some (B.rows.getD r []) := by
        rw [List.getD_eq_getElem?_getD, List.getElem?_eq_getElem hlt]; rfl
      refine .rp (fun j => C.getD (r * B.sz + (c + j)) undef) hGb (fun j v hj => ?_) (fun j v hj => ?_)
      · rw [List.getElem?_drop] at hj
        obtain ⟨cu, h1, _⟩ := hrows _ _ _ v hrow hj
        rw [cell_of_row w b _ C ty' (0, 0) hC, Nat.add_assoc, h1, Array.getD_eq_getD_getElem?, h1]; rfl
      · rw [List.getElem?_drop] at hj
        obtain ⟨cu, h1, h2⟩ := hrows _ _ _ v hrow hj
        simp only [hp, if_true] at h2
        have e : C.getD (r * B.sz + (c + j)) undef = cu := by rw [Array.getD_eq_getD_getElem?, h1]; rfl
        rw [e]
        exact h2.mono hG (fun _ _ => rfl) (fun _ _ => rfl) (fun _ h => h) (fun _ h => h.elim)
    · exact base _ _ (.ptr ha hr)
  | rp g h1 h2 h3 => exact base _ _ (.rp g h1 h2 h3)
  | rd0 => exact base _ _ .rd0
  | rd g h1 h2 h3 h4 h5 h6 => exact base _ _ (.rd g h1 h2 h3 h4 h5 h6)
  | agg h1 h2 => exact base _ _ (.agg h1 h2)
  | tup h1 h2 => exact base _ _ (.tup h1 h2)
  | fn h1 h2 => exact base _ _ (.fn h1 h2)

theorem frz_V {w : World} {G G' : Nat → Prop} {ρ : Names} {A A' : Allow} {id b : Nat} {B : Blk} (hG : ∀ x, G x → G' x) (hGb : G' b) (hρ : ρ id = some (b, B.sz)) (hB : BRel w G ρ A B b) (hp : B.pure = true) {v : AVal} {cv : Value} (hv : V w G ρ A' v cv) :
    V w G' (setN ρ id none) A' (frz id B v) cv := by
  cases v with
  | agg cells =>
    cases hv with
    | agg h1 h2 =>
      refine .agg (by simpa using h1) fun j u hj => ?_
      rw [List.getElem?_map] at hj
      simp only [Option.map_eq_some_iff] at hj
      obtain ⟨u', hu', rfl⟩ := hj
      exact frz0_V hG hGb hρ hB hp (h2 j u' hu')
  | fn f cells =>
    cases hv with
    | fn h1 h2 =>
      refine .fn (by simpa using h1) fun j u hj => ?_
      rw [List.getElem?_map] at hj
      simp only [Option.map_eq_some_iff] at hj
      obtain ⟨u', hu', rfl⟩ := hj
      exact frz0_V hG hGb hρ hB hp (h2 j u' hu')
  | _ => exact frz0_V hG hGb hρ hB hp hv

theorem freeze_inv {A : Allow} {w : World} {G : Nat → Prop} {ρ : Names} {a : Act} {id : Nat} {B : Blk} (hB : look H id = some B) (hp : B.pure = true) (hi : Inv Γ nt w G ρ A a fr H) :
    ∃ G' ρ', Inv Γ nt w G' ρ' A a (frzF id B fr) (frzH id B H) ∧ ∀ S, Step S w G ρ w G' ρ' := by
  obtain ⟨hA, b, hb, hg, hBR⟩ := hi.rel.blk id B A (by simp [ofHeap, hB])
  let G' : Nat → Prop := fun x => G x ∨ x = b
  have hst : ∀ S : Allow, Step S w G ρ w G' (setN ρ id none) := fun S => by
    refine ⟨Nat.le_refl _, fun _ _ _ => rfl, fun _ _ => rfl, fun _ h => .inl h, fun x h => ?_, ?_, fun i _ => ?_, rfl, rfl, rfl⟩
    · rcases h with h | h
      · exact .inl h
      · exact .inr (.inl (h ▸ ⟨id, _, hb⟩))
    · rintro x ⟨i, s, hx⟩
      simp only [setN] at hx
      split at hx
      · cases hx
      · exact .inl ⟨i, s, hx⟩
    · simp only [setN]; split
      · exact .inl rfl
      · exact .inr rfl
  have hV : ∀ A' v cv, V w G ρ A' v cv → V w G' (setN ρ id none) A' (frz id B v) cv := fun A' v cv h => frz_V (fun _ h => .inl h) (.inr rfl) hb hBR hp h
  have hV0 : ∀ A' v cv, V w G ρ A' v cv → V w G' (setN ρ id none) A' (frz0 id B v) cv := fun A' v cv h => frz0_V (fun _ h => .inl h) (.inr rfl) hb hBR hp h
  refine ⟨G', setN ρ id none, ⟨?_, hi.size, hi.defers, fun t v hv => ?_⟩, hst⟩
  · refine hi.rel.after (hst (fun _ => True)) _ (fun i hi' => ?_) (fun i C A1 hi' => ?_) (fun i j c s t h1 h2 => ?_) (fun x hx => ?_)
    · simp only [ofHeap, Option.map_eq_none_iff, frzH] at hi'
      rw [look_map, Option.map_eq_none_iff, look_del] at hi'
      simp only [setN]
      split at hi'
      · rename_i he; rw [if_pos he]
      · rename_i he; rw [if_neg he]; exact hi.rel.dom i (by simp [ofHeap, hi'])
    · simp only [ofHeap, Option.map_eq_some_iff, frzH] at hi'
      obtain ⟨C', hC', he⟩ := hi'
      cases he
      rw [look_map, Option.map_eq_some_iff] at hC'
      obtain ⟨D, hD, rfl⟩ := hC'
      rw [look_del] at hD
      split at hD
      · cases hD
      · rename_i hne
        obtain ⟨h1, b', h2, h3, h4⟩ := hi.rel.blk i D A (by simp [ofHeap, hD])
        have hbne : b' ≠ b := fun he => hne (hi.rel.inj i id _ _ _ h2 (he ▸ hb))
        have hg' : ¬ G' b' := fun h => h.elim h3 hbne
        have hsz : (frzB id B D).sz = D.sz := by unfold frzB; split <;> rfl
        refine ⟨h1, .inr ⟨b', by simp only [setN, hne, if_false, h2, hsz], hg', ?_⟩⟩
        unfold frzB
        split
        · rename_i hpd
          exact h4.step hi.rel (hst (fun _ => True)) (fun _ _ => trivial) (fun _ h => h) rfl
        · rename_i hpd
          obtain ⟨⟨C, ty, hC, hrows⟩, hlen⟩ := h4
          have hgr : ∀ (r : Nat) row, (D.rows.map fun row => row.map (frz0 id B))[r]? = some row → ∃ row0, D.rows[r]? = some row0 ∧ row = row0.map (frz0 id B) := fun r row h => by
            rw [List.getElem?_map] at h
            simp only [Option.map_eq_some_iff] at h
            obtain ⟨row0, h5, rfl⟩ := h
            exact ⟨row0, h5, rfl⟩
          refine ⟨⟨C, ty, hC, fun r row c v h5 h6 => ?_⟩, fun r row h5 => ?_⟩
          · obtain ⟨row0, h7, rfl⟩ := hgr r row h5
            rw [List.getElem?_map] at h6
            simp only [Option.map_eq_some_iff] at h6
            obtain ⟨v0, h8, rfl⟩ := h6
            obtain ⟨cv, h9, h10⟩ := hrows r row0 c v0 h7 h8
            simp only [hpd] at h10
            exact ⟨cv, h9, by simp only [Bool.false_eq_true, if_false]; exact hV0 _ _ _ h10⟩
          · obtain ⟨row0, h7, rfl⟩ := hgr r row h5
            simpa using hlen r row0 h7
    · simp only [setN] at h1 h2
      split at h1
      · cases h1
      · split at h2
        · cases h2
        · exact hi.rel.inj i j c s t h1 h2
    · rcases hx with hx | rfl
      · exact hi.rel.ro x hx
      · exact hi.rel.owned_lt ⟨id, _, hb⟩
  · unfold frzF at hv
    rw [look_map, Option.map_eq_some_iff] at hv
    obtain ⟨u, hu, rfl⟩ := hv
    exact hV _ _ _ (hi.frm t u hu)

/-- Freeze ahead of a piece of code. -/
theorem W_freeze {c : Code} (id : Nat) {B : Blk} (hB : look H id = some B) (hp : B.pure = true) (h : W P Γ nt kb c Q k (frzF id B fr) (frzH id B H)) : W P Γ nt kb c Q k fr H := fun A0 hA0 hk w G ρ a hi => by
  obtain ⟨G', ρ', hi', hs⟩ := freeze_inv hB hp hi
  exact wp_mono (h A0 hA0 hk w G' ρ' a hi') fun _ _ _ hp => Post.trans (hs _) hp
/-- Freeze behind it. -/
def upF (Q : AQ) : AQ := fun e k fr H => ∃ id B, look H id = some B ∧ B.pure = true ∧ Q e k (frzF id B fr) (frzH id B H)
theorem W_upF {c : Code} (h : W P Γ nt kb c (upF Q) k fr H) : W P Γ nt kb c Q k fr H := fun A0 hA0 hk w G ρ a hi =>
  wp_mono (h A0 hA0 hk w G ρ a hi) fun e a' w' hp => by
    obtain ⟨G', ρ', k', fr', H', ⟨id, B, hB, hp, hQ⟩, hk', hi', hst⟩ := hp
    obtain ⟨G1, ρ1, hi1, hs1⟩ := freeze_inv hB hp hi'
    exact ⟨G1, ρ1, k', _, _, hQ, hk', hi1, hst.trans (hs1 (below kb)) (fun _ h => h)⟩

/- Contracts that say less. -/
theorem Tr.weaken {f : FuncId} {args : List AVal} {H : Heap} {Q Q' : Nat → AVal → Heap → Prop} (h : Tr P Γ f k args H Q')
    (hq : ∀ k' r H', k ≤ k' → Q' k' r H' → ∃ k1 r1 H1, k ≤ k1 ∧ VLe r r1 ∧ (∀ id B, look H1 id = some B → ∃ C, look H' id = some C ∧ BLe C B) ∧ (k1 = k' ∨ (bd (ltB k1) r1 = true ∧ bdH (ltB k1) H1 = true)) ∧ Q k1 r1 H1) : Tr P Γ f k args H Q := by
  intro A hA w G ρ cargs h1 h2
  refine (h A hA w G ρ cargs h1 h2).mono ?_
  rintro e w' ⟨cv, G', ρ', k', r, H', rfl, hQ, hk, hrel, hv, hst⟩
  obtain ⟨k1, r1, H1, hk1, hle, hH, hb, hQ1⟩ := hq k' r H' hk hQ
  have hi : Inv Γ 1 w' G' ρ' (alw A k k') { tmps := #[cv], defers := [] } [(0, r)] H' := ⟨hrel, rfl, rfl, fun t v hv' => by
    simp only [look] at hv'
    split at hv'
    · rename_i he; subst he; cases hv'; exact hv
    · cases hv'⟩
  have hw : WkG k k' [(0, r)] H' k1 [(0, r1)] H1 := ⟨hk1, fun t v hv' => by
    simp only [look] at hv' ⊢
    split at hv'
    · rename_i he; cases hv'; exact ⟨r, by rw [if_pos he], hle⟩
    · exact absurd hv' (by simp), hH, hb.imp id (fun h => ⟨by simp [bdF, h.1], h.2⟩)⟩
  obtain ⟨ρ1, hi1, hs1⟩ := hw.inv hi
  exact ⟨cv, G', ρ1, k1, r1, H1, rfl, hQ1, hk1, hi1.rel, hi1.frm 0 r1 (by simp [look]), hst.trans (hs1 (below k)) (fun _ h => h)⟩

/-- A function of values: it touches nothing that its caller has. -/
def Pure (P : Program) (Γ : List (Nat × List AVal)) (f : FuncId) (args : List AVal) (r : AVal) : Prop := ∀ k, Tr P Γ f k args [] (fun k1 r1 H1 => k1 = k ∧ r1 = r ∧ H1 = [])

/-- The rule of such a function. -/
theorem Pure_body {f : FuncId} {fn : Func} {c : Code} {args : List AVal} {r : AVal} (hf : P.funcs[f]? = some fn) (hb : fn.body = some c) (hn : args.length ≤ fn.ntmps) (hr : bd (fun _ => false) r = true)
    (h : ∀ k, W P Γ fn.ntmps k c (retQ P fn (fun _ r1 _ => VLe r1 r)) k (argFr 0 args) []) : Pure P Γ f args r := fun k => by
  refine (Tr_body hf hb hn (h k)).weaken fun k' r1 H' hk hle => ⟨k, r, [], Nat.le_refl _, hle, fun id B hB => by simp [look] at hB, .inr ⟨?_, rfl⟩, rfl, rfl, rfl⟩
  have mono0 : ∀ v, bd0 (fun _ => false) v = true → bd0 (ltB k) v = true := fun v hv => by cases v <;> simp_all [bd0]
  have mono1 : ∀ v, bd1 (fun _ => false) v = true → bd1 (ltB k) v = true := fun v hv => by
    cases v with
    | agg cs => exact List.all_eq_true.2 fun x hx => mono0 x (List.all_eq_true.1 hv x hx)
    | fn f cs => exact List.all_eq_true.2 fun x hx => mono0 x (List.all_eq_true.1 hv x hx)
    | _ => simp_all [bd1, bd0]
  cases r with
  | tup cs => exact List.all_eq_true.2 fun x hx => mono1 x (List.all_eq_true.1 hr x hx)
  | agg cs => exact mono1 (.agg cs) hr
  | fn f cs => exact mono1 (.fn f cs) hr
  | _ => simp_all [bd, bd1, bd0]
end
end Go.AM
end

section
/-
  The abstract machine, part 15: the operations as one function; a region run by it.
-/
namespace Go.AM

def isStructT (P : Program) (t : TypeId) : Bool := match P.underlying t with | some (.struct _) => true | _ => false
/-- an array type: its length, its element's type, size, and whether that is a row -/
def arrE (P : Program) (t : TypeId) : Option (Nat × Nat × Bool) :=
  match P.underlying t with
  | some (.array n e) => match tsz P e, tagg P e with
    | some s, some ag => some (n, s, ag)
    | _, _ => none
  | _ => none

def qOut (k : Nat) (v : AVal) : Out := ⟨v, k, [], []⟩

def aIndexAddr (P : Program) (get : Nat → Option Blk) (k t : Nat) (x y : Option AVal) : Option Out :=
  match x, y with
  | some (.rd s n f), some (.lit (.int _ i)) => if esz P t = some s ∧ 0 ≤ i ∧ i < n then some ⟨.rp (f i.toNat), k, [], []⟩ else none
  | some (.sl id r n), some (.lit (.int _ i)) => match get id with
    | some B => if esz P t = some B.sz ∧ 0 ≤ i ∧ i < n then some ⟨.ptr id (r + i.toNat) 0, k, [], [id]⟩ else none
    | none => none
  | some (.rp cells), some (.lit (.int _ i)) => match arr P t with
    | some (m, s) => if 0 ≤ i ∧ i < m then some ⟨.rp (cells.drop (i.toNat * s)), k, [], []⟩ else none
    | none => none
  | some (.ptr id r c), some (.lit (.int _ i)) => match arr P t, get id with
    | some (m, s), some B => if 0 ≤ i ∧ i < m then some ⟨if B.sz = s ∧ c = 0 then .ptr id (r + i.toNat) 0 else .ptr id r (c + i.toNat * s), k, [], [id]⟩ else none
    | _, _ => none
  | _, _ => none

def aLoad (P : Program) (get : Nat → Option Blk) (k t : Nat) (x : Option AVal) : Option Out :=
  match tagg P t, tsz P t, x with
  | some ag, some n, some (.rp cells) => (rowPart ag n cells 0).map (qOut k)
  | some ag, some n, some (.ptr id r c) => match get id with
    | some B => if r = 0 ∧ c = 0 ∧ B.sz < n then (rowPart ag n B.rows.flatten 0).map fun v => ⟨v, k, [], [id]⟩ else match B.rows[r]? with
      | some row => (rowPart ag n row c).map fun v => ⟨v, k, [], [id]⟩
      | none => none
    | none => none
  | _, _, _ => none

def aStore (P : Program) (get : Nat → Option Blk) (k t : Nat) (x y : Option AVal) : Option Out :=
  match tsz P t, x, y.bind acells with
  | some n, some (.ptr id r c), some cells => match get id with
    | some B => if r = 0 ∧ c = 0 ∧ B.sz < n then (if cells.length = n ∧ cells.all one = true ∧ 0 < B.sz ∧ n = B.rows.length * B.sz then some ⟨.junk, k, [(id, some ⟨B.sz, cells.all clean, chunks B.sz B.rows.length cells⟩)], [id]⟩ else none) else match B.rows[r]? with
      | some row => if cells.length = n ∧ cells.all one = true ∧ c + n ≤ row.length then some ⟨.junk, k, [(id, some ⟨B.sz, B.pure && cells.all clean, B.rows.set r (setPart row cells c)⟩)], [id]⟩ else none
      | none => none
    | none => none
  | _, _, _ => none

def aBuild (P : Program) (k t : Nat) (parts : Option (List (Nat × AVal))) : Option Out :=
  match zcells P t, parts with
  | some cells, some vs =>
    if isStructT P t then match placesOf P t with
      | some pl => (fillA (pl[·]?) cells vs).map fun cs => qOut k (.agg cs)
      | none => none
    else match arrE P t with
      | some (_, s, _) => (fillA (fun i => some (i * s, s)) cells vs).map fun cs => qOut k (.agg cs)
      | none => none
  | _, _ => none

def aBuildSlice (P : Program) (k t len : Nat) (parts : Option (List (Nat × AVal))) : Option Out :=
  match ezero P t, parts with
  | some (s, _, zrow), some vs => match fillA (fun i => some (i * s, s)) (List.replicate len zrow).flatten vs with
    | some cells => if len * s ≤ 16777216 ∧ cells.length = len * s then some ⟨.sl k 0 len, k + 1, [(k, some ⟨s, cells.all clean, chunks s len cells⟩)], []⟩ else none
    | none => none
  | _, _ => none

def aMake (P : Program) (k t : Nat) (x y : Option AVal) : Option Out :=
  match ezero P t, x, y with
  | some (s, by', zrow), some (.lit (.int _ l)), some (.lit (.int _ c)) =>
    if 0 ≤ l ∧ l ≤ c ∧ (by' : Int) * c ≤ 281474976710656 ∧ c ≤ 9223372036854775807 then some ⟨.sl k 0 l.toNat, k + 1, [(k, some ⟨s, true, List.replicate l.toNat zrow⟩)], []⟩ else none
  | _, _, _ => none

/-- a source: element size, rows, pure, blocks read -/
def aSrc (get : Nat → Option Blk) : AVal → Option (Nat × Nat × List (List AVal) × Bool × List Nat)
  | .rd s m f => some (s, m, (List.range m).map f, true, [])
  | .sl id r m => match get id with
    | some B => if r + m ≤ B.rows.length then some (B.sz, m, (B.rows.drop r).take m, B.pure, [id]) else none
    | none => none
  | .lit (.slice none 0 0) => some (0, 0, [], true, [])
  | _ => none

def aAppend (P : Program) (get : Nat → Option Blk) (k t : Nat) (x y : Option AVal) : Option Out :=
  match ezero P t, x, y.bind (aSrc get) with
  | some (s, by', _), some (.lit (.slice none 0 0)), some (s', m, rows, p, ids) =>
    if m = 0 then some ⟨.lit (.slice none 0 0), k, [], ids⟩
    else if s' = s ∧ 0 < m ∧ m ≤ 9223372036854775807 ∧ m * by' ≤ 140737488355328 ∧ (rows.all fun row => row.all one) = true then some ⟨.sl k 0 m, k + 1, [(k, some ⟨s, p, rows⟩)], ids⟩ else none
  | some (s, by', _), some (.sl id 0 n), some (s', m, rows, p, ids) => match get id with
    | some B =>
      if m = 0 then some ⟨.sl id 0 n, k, [], id :: ids⟩
      else if s' = s ∧ B.sz = s ∧ B.rows.length = n ∧ id < k ∧ 0 < m ∧ n + m ≤ 9223372036854775807 ∧ (n + m) * by' ≤ 140737488355328 ∧ (rows.all fun row => row.all one) = true then
        some ⟨.sl k 0 (n + m), k + 1, [(k, some ⟨s, B.pure && p, B.rows ++ rows⟩), (id, none)], id :: ids⟩ else none
    | none => none
  | some _, some (.rd s1 n f), some (_, m, _, _, ids) => if m = 0 then some ⟨.rd s1 n f, k, [], ids⟩ else none
  | _, _, _ => none

/- plain values -/
def intBin (op : BinOp) (k : IntKind) (a b : Int) : Option Value :=
  match op with
  | .add => some (.int k (k.wrap (a + b)))
  | .sub => some (.int k (k.wrap (a - b)))
  | .mul => some (.int k (k.wrap (a * b)))
  | .quo => if b = 0 then none else some (.int k (k.wrap (a.tdiv b)))
  | .rem => if b = 0 then none else some (.int k (a.tmod b))
  | .and => some (.int k (k.wrap (BitVec.ofInt k.bits a &&& BitVec.ofInt k.bits b).toNat))
  | .or => some (.int k (k.wrap (BitVec.ofInt k.bits a ||| BitVec.ofInt k.bits b).toNat))
  | .xor => some (.int k (k.wrap (BitVec.ofInt k.bits a ^^^ BitVec.ofInt k.bits b).toNat))
  | .eql => some (.bool (a == b))
  | .neq => some (.bool (a != b))
  | .lss => some (.bool (decide (a < b)))
  | .leq => some (.bool (decide (a ≤ b)))
  | .gtr => some (.bool (decide (b < a)))
  | .geq => some (.bool (decide (b ≤ a)))
  | _ => none
def shBin (op : BinOp) (k : IntKind) (a b : Int) : Option Value :=
  match op with
  | .shl => if b < 0 then none else some (.int k (k.wrap (a * 2 ^ min b.toNat k.bits)))
  | .shr => if b < 0 then none else some (.int k (a.fdiv (2 ^ min b.toNat k.bits)))
  | _ => none
def strBin (op : BinOp) (x y : ByteArray) : Option Value :=
  match op with
  | .add => if ((x.size + y.size : Nat) : Int) > 9223372036854775807 then none else some (.string (x ++ y))
  | .eql => some (.bool (x.toList == y.toList))
  | .neq => some (.bool !(x.toList == y.toList))
  | _ => none
def isShift : BinOp → Bool
  | .shl => true
  | .shr => true
  | _ => false
def binV (P : Program) (op : BinOp) (t : TypeId) (a b : Value) : Option Value :=
  match a, b with
  | .int k x, .int k' y => if isShift op then shBin op k x y else if k = k' then intBin op k x y else none
  | .string x, .string y => strBin op x y
  | .bool x, .bool y => if tagOf P t = some 1 then (match op with | .eql => some (.bool (x == y)) | .neq => some (.bool !(x == y)) | _ => none) else none
  | .pointer none, .pointer none => if refT P t = some 0 then (match op with | .eql => some (.bool true) | .neq => some (.bool false) | _ => none) else none
  | .slice none _ _, .slice none _ _ => if refT P t = some 1 then (match op with | .eql => some (.bool true) | .neq => some (.bool false) | _ => none) else none
  | _, _ => none
def ikind (P : Program) (t : TypeId) : Option IntKind := match P.underlying t with | some (.int k) => some k | _ => none
def isStrT (P : Program) (t : TypeId) : Bool := match P.underlying t with | some .string => true | _ => false
def unV (op : UnOp) (a : Value) : Option Value :=
  match op, a with
  | .not, .bool b => some (.bool !b)
  | .neg, .int k n => some (.int k (k.wrap (0 - n)))
  | _, _ => none

def aSlice (P : Program) (ev : Operand → Option AVal) (get : Nat → Option Blk) (k t : Nat) (x : Operand) (lo hi : Option Operand) : Option Out :=
  match ev x with
  | some (.rd s n f) => match bound ev lo 0, bound ev hi n with
    | some l, some h => if esz P t = some s ∧ 0 ≤ l ∧ l ≤ h ∧ h ≤ n then some ⟨.rd s (h.toNat - l.toNat) (fun i => f (l.toNat + i)), k, [], []⟩ else none
    | _, _ => none
  | some (.sl id r n) => match get id, bound ev lo 0, bound ev hi n with
    | some B, some l, some h => if esz P t = some B.sz ∧ 0 ≤ l ∧ l ≤ h ∧ h ≤ n then some ⟨.sl id (r + l.toNat) (h.toNat - l.toNat), k, [], [id]⟩ else none
    | _, _, _ => none
  | some (.lit (.string str)) => match bound ev lo 0, bound ev hi str.size with
    | some l, some h => if isStrT P t = true ∧ 0 ≤ l ∧ l ≤ h ∧ h ≤ str.size then some (qOut k (.lit (.string (str.extract l.toNat h.toNat)))) else none
    | _, _ => none
  | _ => none

def isAggV : AVal → Bool
  | .agg _ => true
  | _ => false
def aggCells : AVal → List AVal
  | .agg cs => cs
  | _ => []

/-- == and != that are not of plain values: against nil; of structs -/
def aEq (P : Program) (get : Nat → Option Blk) (k t : Nat) (neg : Bool) (v z : AVal) : Option Out :=
  if isAggV v && isAggV z then
    match eqOffs P t, litsOf (aggCells v), litsOf (aggCells z) with
    | some offs, some xs, some ys => (eqCells xs ys offs).map fun p => qOut k (.lit (.bool (if neg then !p else p)))
    | _, _, _ => none
  else if nilLike z && notNil get v then
    if refT P t = some (kindOf v) ∧ refT P t = some (kindOf z) then some ⟨.lit (.bool neg), k, [], rdsOf v⟩ else none
  else if nilLike v && notNil get z then
    if refT P t = some (kindOf v) ∧ refT P t = some (kindOf z) then some ⟨.lit (.bool neg), k, [], rdsOf z⟩ else none
  else none

def isNeg : BinOp → Option Bool
  | .eql => some false
  | .neq => some true
  | _ => none

def moveO (k : Nat) : Option AVal → Option Out
  | some v => some (qOut k v)
  | none => none
def pickO (k : Nat) (c x y : Option AVal) : Option Out :=
  match c with
  | some (.lit (.bool t)) => moveO k (if t = true then x else y)
  | _ => none
def nilO (get : Nat → Option Blk) (k : Nat) : Option AVal → Option Out
  | some (.rp c) => some (qOut k (.rp c))
  | some (.ptr i r c) => if (get i).isSome = true then some ⟨.ptr i r c, k, [], [i]⟩ else none
  | _ => none
def fieldO (get : Nat → Option Blk) (k : Nat) (off : Option Nat) (x : Option AVal) : Option Out :=
  match off, x with
  | some off, some (.rp cells) => some (qOut k (.rp (cells.drop off)))
  | some off, some (.ptr i r c) => if (get i).isSome = true then some ⟨.ptr i r (c + off), k, [], [i]⟩ else none
  | _, _ => none
def newO (P : Program) (k t : Nat) : Option (List AVal) → Option Out
  | some cells => some ⟨.ptr k 0 0, k + 1, [(k, some (newBlk P t cells))], []⟩
  | none => none
def fieldVO (k : Nat) (fa : Option (Nat × Nat × Bool)) (x : Option AVal) : Option Out :=
  match fa, x with
  | some (off, n, ag), some (.agg cells) => moveO k (rowPart ag n cells off)
  | _, _ => none
def indexO (P : Program) (k t : Nat) (x y : Option AVal) : Option Out :=
  match x, y with
  | some (.agg cells), some (.lit (.int _ i)) => match arrE P t with
    | some (m, s, ag) => if 0 ≤ i ∧ i < m then moveO k (rowPart ag s cells (i.toNat * s)) else none
    | none => none
  | some (.lit (.string str)), some (.lit (.int _ i)) => if isStrT P t = true ∧ 0 ≤ i ∧ i < str.size then some (qOut k (.lit (.int .u8 ((str.data.toList.getD i.toNat 0).toNat)))) else none
  | _, _ => none
def extractO (k : Nat) (x : Option AVal) (i : Nat) : Option Out :=
  match x with
  | some (.tup vs) => moveO k (vs[i]?)
  | _ => none
def funO (k : Nat) (f : FuncId) : Option (List AVal) → Option Out
  | some vs => some (qOut k (.fn f vs))
  | none => none
def lenO (P : Program) (get : Nat → Option Blk) (k t : Nat) (x : Option AVal) : Option Out :=
  match x with
  | some (.rd _ n _) => if isSliceT P t = true then some (qOut k (.lit (.int .i64 n))) else none
  | some (.sl id _ n) => if isSliceT P t = true ∧ (get id).isSome = true then some ⟨.lit (.int .i64 n), k, [], [id]⟩ else none
  | some (.lit (.string str)) => if isStrT P t = true then some (qOut k (.lit (.int .i64 str.size))) else none
  | some (.lit (.slice none 0 0)) => if isSliceT P t = true then some (qOut k (.lit (.int .i64 0))) else none
  | _ => none
def binO (P : Program) (get : Nat → Option Blk) (k : Nat) (op : BinOp) (t : TypeId) (x y : Option AVal) : Option Out :=
  match x, y with
  | some (.lit a), some (.lit b) => moveO k ((binV P op t a b).map .lit)
  | some v, some z => match isNeg op with
    | some neg => aEq P get k t neg v z
    | none => none
  | _, _ => none
def unO (k : Nat) (op : UnOp) (x : Option AVal) : Option Out :=
  match x with
  | some (.lit a) => moveO k ((unV op a).map .lit)
  | _ => none
def convO (k : Nat) (src dst : Option IntKind) (x : Option AVal) : Option Out :=
  match src, dst, x with
  | some _, some k', some (.lit (.int _ n)) => some (qOut k (.lit (.int k' (k'.wrap n))))
  | _, _, _ => none
def maxO (k : Nat) (x y : Option AVal) : Option Out :=
  match x, y with
  | some (.lit (.int k1 a)), some (.lit (.int k2 b)) => if k1 = k2 then some (qOut k (.lit (.int k1 (if b > a then b else a)))) else none
  | _, _ => none
def minO (k : Nat) (x y : Option AVal) : Option Out :=
  match x, y with
  | some (.lit (.int k1 a)), some (.lit (.int k2 b)) => if k1 = k2 then some (qOut k (.lit (.int k1 (if b < a then b else a)))) else none
  | _, _ => none
def args1 (args : Array Operand) (f : Operand → Option Out) : Option Out :=
  match args.toList with
  | [x] => f x
  | _ => none
def args2 (args : Array Operand) (f : Operand → Operand → Option Out) : Option Out :=
  match args.toList with
  | [x, y] => f x y
  | _ => none

def aop (P : Program) (_Γ : List (Nat × List AVal)) (o : Oper) (ev : Operand → Option AVal) (get : Nat → Option Blk) (k : Nat) : Option Out :=
  match o.op with
  | .move x => moveO k (ev x)
  | .assign x => moveO k (ev x)
  | .pick c x y => pickO k (ev c) (ev x) (ev y)
  | .nilCheck x => nilO get k (ev x)
  | .fieldAddr s x f => fieldO get k (fieldOff P s f) (ev x)
  | .indexAddr t x y => aIndexAddr P get k t (ev x) (ev y)
  | .load t x => aLoad P get k t (ev x)
  | .store t x y => aStore P get k t (ev x) (ev y)
  | .alloc t => newO P k t (zcells P t)
  | .box t x => newO P k t ((ev x).bind acells)
  | .build t parts => aBuild P k t (evParts ev parts.toList)
  | .buildSlice t len parts => aBuildSlice P k t len (evParts ev parts.toList)
  | .makeSlice t x y => aMake P k t (ev x) (ev y)
  | .slice t x lo hi none => aSlice P ev get k t x lo hi
  | .field s x f => fieldVO k (fieldAt P s f) (ev x)
  | .index t x y => indexO P k t (ev x) (ev y)
  | .extract x i => extractO k (ev x) i
  | .makeFunc (.func f) first caps => if first.size = 0 then funO k f (evArgs ev caps.toList) else none
  | .call { callee := .builtin .len, args := args, argTypes := ty } => if ty.size = 0 then none else args1 args fun x => lenO P get k (ty.toList.headD 0) (ev x)
  | .call { callee := .builtin .append, args := args, argTypes := ty } => args2 args fun x y => if ty.toList = [ty.toList.headD 0, ty.toList.headD 0] then aAppend P get k (ty.toList.headD 0) (ev x) (ev y) else none
  | .call { callee := .builtin .max, args := args, argTypes := _ } => args2 args fun x y => maxO k (ev x) (ev y)
  | .call { callee := .builtin .min, args := args, argTypes := _ } => args2 args fun x y => minO k (ev x) (ev y)
  | .binOp op t x y _ => binO P get k op t (ev x) (ev y)
  | .unOp op _ x => unO k op (ev x)
  | .convert src dst x => convO k (ikind P src) (ikind P dst) (ev x)
  | _ => none

section
variable {P : Program} {Γ : List (Nat × List AVal)} {o : Oper} {ev : Operand → Option AVal} {get : Nat → Option Blk} {k : Nat}

theorem Good.quiet {v : AVal} (h : OpOk P Γ o ev get k ⟨v, k, [], []⟩) : Good P Γ o ev get k (qOut k v) := ⟨h, fun id hid => by simp [qOut] at hid, Nat.le_refl _⟩
theorem lop_good {out : Out} (h : (lop P o ev).map (qOut k) = some out) : Good P Γ o ev get k out := by
  simp only [Option.map_eq_some_iff] at h
  obtain ⟨v, hv, rfl⟩ := h
  exact .quiet (lop_ok hv)

theorem arrE_spec {t n s : Nat} {ag : Bool} (h : arrE P t = some (n, s, ag)) : ∃ e, P.underlying t = some (.array n e) ∧ tsz P e = some s ∧ tagg P e = some ag := by
  unfold arrE at h
  split at h
  · rename_i m e hu
    split at h
    · rename_i s' ag' h1 h2; cases h; exact ⟨e, hu, h1, h2⟩
    · cases h
  · cases h

theorem aIndexAddr_good {t : Nat} {x y : Operand} {out : Out} (ho : o.op = .indexAddr t x y) (h : aIndexAddr P get k t (ev x) (ev y) = some out) : Good P Γ o ev get k out := by
  unfold aIndexAddr at h
  split at h
  · rename_i s n f kk i hx hy
    split at h
    · rename_i hc; cases h; exact ⟨index_rd_ok ho hc.1 hx hy hc.2.1 hc.2.2, fun id hid => by simp at hid, Nat.le_refl _⟩
    · cases h
  · rename_i id r n kk i hx hy
    split at h
    · rename_i B hB
      split at h
      · rename_i hc; cases h; exact ⟨index_sl_ok ho hc.1 hx hy hB rfl hc.2.1 hc.2.2, fun id' hid => by simp at hid; rw [hid, hB]; rfl, Nat.le_refl _⟩
      · cases h
    · cases h
  · rename_i cells kk i hx hy
    split at h
    · rename_i m s ha
      split at h
      · rename_i hc; cases h; exact ⟨index_rp_ok ho ha hx hy hc.1 hc.2, fun id hid => by simp at hid, Nat.le_refl _⟩
      · cases h
    · cases h
  · rename_i id r c kk i hx hy
    split at h
    · rename_i m s B ha hB
      split at h
      · rename_i hc; cases h; exact ⟨index_ptr_ok ho ha hx hy hB hc.1 hc.2, fun id' hid => by simp at hid; rw [hid, hB]; rfl, Nat.le_refl _⟩
      · cases h
    · cases h
  · cases h

theorem aLoad_good {t : Nat} {x : Operand} {out : Out} (ho : o.op = .load t x) (h : aLoad P get k t (ev x) = some out) : Good P Γ o ev get k out := by
  unfold aLoad at h
  split at h
  · rename_i ag n cells h1 h2 hx
    simp only [Option.map_eq_some_iff] at h
    obtain ⟨v, hv, rfl⟩ := h
    exact .quiet (load_rp_ok ho h1 h2 hx hv)
  · rename_i ag n id r c h1 h2 hx
    split at h
    · rename_i B hB
      split at h
      · rename_i hc
        obtain ⟨rfl, rfl, _⟩ := hc
        simp only [Option.map_eq_some_iff] at h
        obtain ⟨v, hv, rfl⟩ := h
        exact ⟨load_all_ok ho h1 h2 hx hB hv, fun id' hid => by simp at hid; rw [hid, hB]; rfl, Nat.le_refl _⟩
      split at h
      · rename_i row hrow
        simp only [Option.map_eq_some_iff] at h
        obtain ⟨v, hv, rfl⟩ := h
        exact ⟨load_ptr_ok ho h1 h2 hx hB hrow hv, fun id' hid => by simp at hid; rw [hid, hB]; rfl, Nat.le_refl _⟩
      · cases h
    · cases h
  · cases h

theorem aStore_good {t : Nat} {x y : Operand} {out : Out} (ho : o.op = .store t x y) (h : aStore P get k t (ev x) (ev y) = some out) : Good P Γ o ev get k out := by
  unfold aStore at h
  split at h
  · rename_i n id r c cells h1 hx hy
    obtain ⟨v, hv, hc⟩ := Option.bind_eq_some_iff.1 hy
    split at h
    · rename_i B hB
      split at h
      · rename_i hz
        obtain ⟨rfl, rfl, _⟩ := hz
        split at h
        · rename_i hcond; cases h
          exact ⟨store_all_ok ho h1 hx hv hc hcond.1 hcond.2.1 hB hcond.2.2.1 hcond.2.2.2, fun id' hid => by simp at hid; rw [hid, hB]; rfl, Nat.le_refl _⟩
        · cases h
      split at h
      · rename_i row hrow
        split at h
        · rename_i hcond; cases h
          exact ⟨store_ok ho h1 hx hv hc hcond.1 hcond.2.1 hB hrow hcond.2.2, fun id' hid => by simp at hid; rw [hid, hB]; rfl, Nat.le_refl _⟩
        · cases h
      · cases h
    · cases h
  · cases h

theorem aBuild_good {t : Nat} {parts : Array (Nat × Operand)} {out : Out} (ho : o.op = .build t parts) (h : aBuild P k t (evParts ev parts.toList) = some out) : Good P Γ o ev get k out := by
  unfold aBuild at h
  split at h
  · rename_i cells vs h1 h2
    split at h
    · rename_i hs
      split at h
      · rename_i pl hpl
        simp only [Option.map_eq_some_iff] at h
        obtain ⟨cs, hc, rfl⟩ := h
        refine .quiet (build_ok ho h1 hpl ?_ h2 hc)
        unfold isStructT at hs
        split at hs
        · exact ⟨_, ‹_›⟩
        · cases hs
      · cases h
    · split at h
      · rename_i n s ag ha
        simp only [Option.map_eq_some_iff] at h
        obtain ⟨cs, hc, rfl⟩ := h
        obtain ⟨e, hu, hs, _⟩ := arrE_spec ha
        exact .quiet (build_arr_ok ho h1 hu hs h2 hc)
      · cases h
  · cases h

theorem aBuildSlice_good {t len : Nat} {parts : Array (Nat × Operand)} {out : Out} (ho : o.op = .buildSlice t len parts) (h : aBuildSlice P k t len (evParts ev parts.toList) = some out) : Good P Γ o ev get k out := by
  unfold aBuildSlice at h
  split at h
  · rename_i s by' zrow vs h1 h2
    split at h
    · rename_i cells hc
      split at h
      · rename_i hcond; cases h
        exact ⟨buildSlice_ok ho h1 hcond.1 h2 hc hcond.2, fun id hid => by simp at hid, Nat.le_succ _⟩
      · cases h
    · cases h
  · cases h

theorem aMake_good {t : Nat} {x y : Operand} {out : Out} (ho : o.op = .makeSlice t x y) (h : aMake P k t (ev x) (ev y) = some out) : Good P Γ o ev get k out := by
  unfold aMake at h
  split at h
  · rename_i s by' zrow kl l kc c h1 hx hy
    split at h
    · rename_i hc; cases h
      exact ⟨make_ok ho h1 hx hy hc.1 hc.2.1 hc.2.2.1 hc.2.2.2, fun id hid => by simp at hid, Nat.le_succ _⟩
    · cases h
  · cases h

theorem aSrc_spec {v : AVal} {s m : Nat} {rows : List (List AVal)} {p : Bool} {ids : List Nat} (h : aSrc get v = some (s, m, rows, p, ids)) : SrcA get v s m rows p ids ∧ ∀ id, id ∈ ids → (get id).isSome = true := by
  unfold aSrc at h
  split at h
  · cases h; exact ⟨.rd, fun id hid => by simp at hid⟩
  · split at h
    · rename_i B hB
      split at h
      · rename_i hle; cases h; exact ⟨.sl hB hle, fun id hid => by simp at hid; rw [hid, hB]; rfl⟩
      · cases h
    · cases h
  · cases h; exact ⟨.nil, fun id hid => by simp at hid⟩
  · cases h

theorem aAppend_good {t : Nat} {x y : Operand} {out : Out} (ho : o.op = .call { callee := .builtin .append, args := #[x, y], argTypes := #[t, t] }) (h : aAppend P get k t (ev x) (ev y) = some out) : Good P Γ o ev get k out := by
  unfold aAppend at h
  split at h
  · rename_i s by' z s' m rows p ids h1 hx hy
    obtain ⟨v, hv, hs⟩ := Option.bind_eq_some_iff.1 hy
    obtain ⟨hsrc, hpres⟩ := aSrc_spec hs
    split at h
    · rename_i hm; subst hm; cases h
      exact ⟨append0_ok (idx := []) ho h1 hx hv (.inl ⟨rfl, rfl⟩) hsrc, hpres, Nat.le_refl _⟩
    split at h
    · rename_i hc; cases h
      obtain ⟨rfl, c2, c3, c4, c5⟩ := hc
      exact ⟨append_nil_ok ho h1 hx hv hsrc c2 c3 c4 c5, hpres, Nat.le_succ _⟩
    · cases h
  · rename_i s by' z id n s' m rows p ids h1 hx hy
    obtain ⟨v, hv, hs⟩ := Option.bind_eq_some_iff.1 hy
    obtain ⟨hsrc, hpres⟩ := aSrc_spec hs
    split at h
    · rename_i B hB
      split at h
      · rename_i hm; subst hm; cases h
        exact ⟨append0_ok (idx := [id]) ho h1 hx hv (.inr (.inr ⟨id, 0, n, rfl, rfl, by rw [hB]; rfl⟩)) hsrc, fun id' hid => by
          rcases List.mem_cons.1 hid with h | h
          · rw [h, hB]; rfl
          · exact hpres id' h, Nat.le_refl _⟩
      split at h
      · rename_i hc; cases h
        obtain ⟨rfl, c2, c3, c4, c5, c6, c7, c8⟩ := hc
        exact ⟨append_sl_ok ho h1 hx hB c2 c3 c4 hv hsrc c5 c6 c7 c8, fun id' hid => by
          rcases List.mem_cons.1 hid with h | h
          · rw [h, hB]; rfl
          · exact hpres id' h, Nat.le_succ _⟩
      · cases h
    · cases h
  · rename_i xx s1 n f s' m rows p ids h1 hx hy
    obtain ⟨s, by', z⟩ := xx
    obtain ⟨v, hv, hs⟩ := Option.bind_eq_some_iff.1 hy
    obtain ⟨hsrc, hpres⟩ := aSrc_spec hs
    split at h
    · rename_i hm; subst hm; cases h
      exact ⟨append0_ok (idx := []) ho h1 hx hv (.inr (.inl ⟨s1, n, f, rfl, rfl⟩)) hsrc, hpres, Nat.le_refl _⟩
    · cases h
  · cases h

theorem isStrT_spec {t : Nat} (h : isStrT P t = true) : P.underlying t = some .string := by
  unfold isStrT at h
  split at h
  · assumption
  · cases h

theorem slice_str_ok {t : Nat} {x : Operand} {lo hi : Option Operand} {str : ByteArray} {l h : Int} (ho : o.op = .slice t x lo hi none) (ht : isStrT P t = true) (hx : ev x = some (.lit (.string str))) (hl : bound ev lo 0 = some l) (hh : bound ev hi str.size = some h)
    (h0 : 0 ≤ l) (h1 : l ≤ h) (h2 : h ≤ str.size) : OpOk P Γ o ev get k ⟨.lit (.string (str.extract l.toNat h.toNat)), k, [], []⟩ := by
  refine OpOk_quiet fun w G ρ H A a hr _ hop => ⟨.string (str.extract l.toNat h.toNat), ?_, .lit⟩
  have ex : a.eval x = .string str := V_bool (hop x (by simp [ho, Op.operands]) _ hx)
  have el := bound_spec (w := w) (G := G) (ρ := ρ) (A := A) (a := a) hl (fun y hy v hv => hop y (by simp [ho, Op.operands, hy]) v hv)
  have eh := bound_spec (w := w) (G := G) (ρ := ρ) (A := A) (a := a) hh (fun y hy v hv => hop y (by simp [ho, Op.operands, hy]) v hv)
  have hu := isStrT_spec ht
  have hb : (Instr.sliceBounds false str.size str.size (lo.map a.eval) (hi.map a.eval) none).run P w = .ok (l.toNat, h.toNat, str.size) w := by
    have q1 : (0 : Int) ≤ h ∧ h ≤ (str.size : Int) := ⟨by omega, by omega⟩
    have q3 : (0 : Int) ≤ l ∧ l ≤ (h.toNat : Int) := ⟨h0, by omega⟩
    rcases el with ⟨e1, rfl⟩ | ⟨kl, e1⟩ <;> rcases eh with ⟨e2, rfl⟩ | ⟨kh, e2⟩ <;> rw [e1, e2]
    · simp [Instr.sliceBounds]
    · simp [Instr.sliceBounds, Instr.sliceBound, asIntOf, q1]
    · have q2 : (0 : Int) ≤ l ∧ l ≤ (str.size : Int) := ⟨h0, h1⟩
      simp [Instr.sliceBounds, Instr.sliceBound, asIntOf, q2]
    · simp only [Instr.sliceBounds, Instr.sliceBound, asIntOf, Sem.run_bind, Sem.run_pure, Result.andThen_ok, q1, and_self, if_true, q3]
  simp only [execOp, ho, ex, Option.map_none, Instr.sliceAt, underlying, Sem.run_bind, run_program, Result.andThen_ok, hu, Sem.run_pure, Instr.slice]
  simp [hb]

theorem aSlice_good {t : Nat} {x : Operand} {lo hi : Option Operand} {out : Out} (ho : o.op = .slice t x lo hi none) (h : aSlice P ev get k t x lo hi = some out) : Good P Γ o ev get k out := by
  unfold aSlice at h
  split at h
  · rename_i s n f hx
    split at h
    · rename_i l hh h1 h2
      split at h
      · rename_i hc; cases h; exact ⟨slice_rd_ok ho hc.1 hx h1 h2 hc.2.1 hc.2.2.1 hc.2.2.2, fun id hid => by simp at hid, Nat.le_refl _⟩
      · cases h
    · cases h
  · rename_i id r n hx
    split at h
    · rename_i B l hh hB h1 h2
      split at h
      · rename_i hc; cases h; exact ⟨slice_sl_ok ho hc.1 hx hB rfl h1 h2 hc.2.1 hc.2.2.1 hc.2.2.2, fun id' hid => by simp at hid; rw [hid, hB]; rfl, Nat.le_refl _⟩
      · cases h
    · cases h
  · rename_i str hx
    split at h
    · rename_i l hh h1 h2
      split at h
      · rename_i hc; cases h; exact .quiet (slice_str_ok ho hc.1 hx h1 h2 hc.2.1 hc.2.2.1 hc.2.2.2)
      · cases h
    · cases h
  · cases h

theorem rdsOf_some {v : AVal} (h : notNil get v = true) : ∀ id, id ∈ rdsOf v → (get id).isSome = true := fun id hid => by
  cases v <;> simp [rdsOf] at hid
  · subst hid; exact h
  · subst hid; exact h

theorem aEq_good {op : BinOp} {t ty : Nat} {x y : Operand} {v z : AVal} {neg : Bool} {out : Out} (ho : o.op = .binOp op t x y ty) (hneg : isNeg op = some neg) (hx : ev x = some v) (hy : ev y = some z) (h : aEq P get k t neg v z = some out) : Good P Γ o ev get k out := by
  have ho' : o.op = .binOp (if neg then .neq else .eql) t x y ty := by
    cases op <;> simp [isNeg] at hneg
    · subst hneg; exact ho
    · subst hneg; exact ho
  unfold aEq at h
  split at h
  · rename_i hagg
    split at h
    · rename_i offs xs ys h1 h2 h3
      simp only [Option.map_eq_some_iff] at h
      obtain ⟨p, hp, rfl⟩ := h
      cases v with
      | agg xc =>
        cases z with
        | agg yc => exact .quiet (eqagg_ok ho' h1 hx hy h2 h3 hp)
        | _ => simp [isAggV] at hagg
      | _ => simp [isAggV] at hagg
    · cases h
  · split at h
    · rename_i hc
      simp only [Bool.and_eq_true] at hc
      split at h
      · rename_i hk; cases h
        exact ⟨eqnil_ok ho' hk.1 (.inl ⟨hx, hy⟩) hc.2 hc.1 rfl (by rw [hk.2] at hk; exact (Option.some.inj hk.1)), rdsOf_some hc.2, Nat.le_refl _⟩
      · cases h
    · split at h
      · rename_i hc
        simp only [Bool.and_eq_true] at hc
        split at h
        · rename_i hk; cases h
          exact ⟨eqnil_ok ho' hk.2 (.inr ⟨hx, hy⟩) hc.2 hc.1 rfl (by rw [hk.1] at hk; exact (Option.some.inj hk.2)), rdsOf_some hc.2, Nat.le_refl _⟩
        · cases h
      · cases h

theorem equalIn_bool {t : Nat} (ht : tagOf P t = some 1) (d : Nat) (x y : Bool) (w : World) : (Op.equalIn (d + 1) t (.bool x) (.bool y)).run P w = .ok (x == y) w :=
  eqLit_run ht (by simp [eqLit]) w

theorem binV_run {op : BinOp} {t : Nat} {a b v : Value} (h : binV P op t a b = some v) (xo yo : Operand) (w : World) : (do eqGuard op t xo yo a b; binOp op t a b : Sem Value).run P w = .ok v w := by
  unfold binV at h
  split at h
  · rename_i k x k' y
    have hg : (eqGuard op t xo yo (.int k x) (.int k' y)).run P w = .ok () w := eqGuard_idle (by simp) (by simp) op xo yo w
    rw [Sem.run_bind, hg, Result.andThen_ok]
    split at h
    · cases op <;> simp [isShift] at *
      · simp only [shBin] at h
        split at h
        · cases h
        · rename_i hlt; cases h; simp [binOp, Op.shift, hlt]
      · simp only [shBin] at h
        split at h
        · cases h
        · rename_i hlt; cases h; simp [binOp, Op.shift, hlt]
    · split at h
      · rename_i hns he
        subst he
        cases op <;> simp only [intBin, isShift, Bool.true_eq_false, not_true_eq_false] at h hns <;> first
          | (cases h; simp [binOp, Op.intArith, Op.intBits, Op.intCmp]; done)
          | (split at h; · cases h
             · rename_i hz; cases h; simp [binOp, Op.intDiv, hz])
          | cases h
      · cases h
  · rename_i x y
    have hg : (eqGuard op t xo yo (.string x) (.string y)).run P w = .ok () w := eqGuard_idle (by simp) (by simp) op xo yo w
    rw [Sem.run_bind, hg, Result.andThen_ok]
    cases op <;> simp only [strBin] at h <;> first
      | (split at h; · cases h
         · rename_i hz; cases h
           have hz' : ¬ (((x.size + y.size : Nat) : Int) > IntKind.i64.max) := hz
           simp only [binOp, Op.stringOp, if_neg hz']; rfl)
      | (cases h; simp [binOp, Op.stringOp]; done)
      | cases h
  · rename_i x y
    have hg : (eqGuard op t xo yo (.bool x) (.bool y)).run P w = .ok () w := eqGuard_idle (by simp) (by simp) op xo yo w
    rw [Sem.run_bind, hg, Result.andThen_ok]
    split at h
    · rename_i ht
      have he : (Op.equal t (.bool x) (.bool y)).run P w = .ok (x == y) w := equalIn_bool ht 9999 x y w
      have := eql_of (P := P) (t := t) (x := .bool x) (y := .bool y) (w := w) (by simp) he
      split at h
      · cases h; exact this.1
      · cases h; exact this.2
      · cases h
    · cases h
  · have hg : (eqGuard op t xo yo (.pointer none) (.pointer none)).run P w = .ok () w := eqGuard_idle (by simp) (by simp) op xo yo w
    rw [Sem.run_bind, hg, Result.andThen_ok]
    split at h
    · rename_i ht
      unfold refT at ht
      split at ht <;> cases ht
      rename_i e hu
      have he : (Op.equal t (.pointer none) (.pointer none)).run P w = .ok true w := equalIn_ptr0 hu 9999 w
      cases op <;> simp only [] at h <;> first
        | (cases h; simp [binOp, he]; done)
        | cases h
    · cases h
  · rename_i m c m' c'
    have hg : (eqGuard op t xo yo (.slice none m c) (.slice none m' c')).run P w = .ok () w := eqGuard_idle (by simp) (by simp) op xo yo w
    rw [Sem.run_bind, hg, Result.andThen_ok]
    split at h
    · rename_i ht
      unfold refT at ht
      split at ht <;> cases ht
      rename_i e hu
      have he : (Op.equal t (.slice none m c) (.slice none m' c')).run P w = .ok true w := equalIn_sl0 hu 9999 m c m' c' w
      cases op <;> simp only [] at h <;> first
        | (cases h; simp [binOp, he]; done)
        | cases h
    · cases h
  · cases h

theorem binV_ok {op : BinOp} {t ty : Nat} {x y : Operand} {a b v : Value} (ho : o.op = .binOp op t x y ty) (hx : ev x = some (.lit a)) (hy : ev y = some (.lit b)) (h : binV P op t a b = some v) : OpOk P Γ o ev get k ⟨.lit v, k, [], []⟩ := by
  refine OpOk_quiet fun w G ρ H A act hr _ hop => ⟨v, ?_, .lit⟩
  have ex : act.eval x = a := V_bool (hop x (by simp [ho, Op.operands]) _ hx)
  have ey : act.eval y = b := V_bool (hop y (by simp [ho, Op.operands]) _ hy)
  have := binV_run (P := P) h x y w
  simp only [execOp, ho, ex, ey]
  rw [Sem.run_bind] at this ⊢
  rw [Sem.run_bind, this]; rfl

theorem unV_ok {op : UnOp} {t : Nat} {x : Operand} {a v : Value} (ho : o.op = .unOp op t x) (hx : ev x = some (.lit a)) (h : unV op a = some v) : OpOk P Γ o ev get k ⟨.lit v, k, [], []⟩ := by
  refine OpOk_quiet fun w G ρ H A act hr _ hop => ⟨v, ?_, .lit⟩
  have ex : act.eval x = a := V_bool (hop x (by simp [ho, Op.operands]) _ hx)
  unfold unV at h
  split at h
  · cases h; simp [execOp, ho, ex, Op.unary]
  · cases h; simp [execOp, ho, ex, Op.unary, Op.intArith]
  · cases h

theorem ikind_spec {t : Nat} {kk : IntKind} (h : ikind P t = some kk) : P.underlying t = some (.int kk) := by
  unfold ikind at h
  split at h
  · cases h; assumption
  · cases h

theorem conv_ok {src dst : Nat} {x : Operand} {k1 k2 kk : IntKind} {n : Int} (ho : o.op = .convert src dst x) (hx : ev x = some (.lit (.int k1 n))) (h1 : ikind P src = some k2) (h2 : ikind P dst = some kk) : OpOk P Γ o ev get k ⟨.lit (.int kk (kk.wrap n)), k, [], []⟩ := by
  refine OpOk_quiet fun w G ρ H A act hr _ hop => ⟨.int kk (kk.wrap n), ?_, .lit⟩
  have ex : act.eval x = .int k1 n := V_bool (hop x (by simp [ho, Op.operands]) _ hx)
  simp [execOp, ho, ex, convert, run_underlying (ikind_spec h1), run_underlying (ikind_spec h2), Conv.intToInt]

theorem lenStr_ok {t : Nat} {x : Operand} {str : ByteArray} {ty : Array TypeId} (ho : o.op = .call { callee := .builtin .len, args := #[x], argTypes := ty }) (hty : ty[0]? = some t) (ht : isStrT P t = true) (hx : ev x = some (.lit (.string str))) : OpOk P Γ o ev get k ⟨.lit (.int .i64 str.size), k, [], []⟩ := by
  refine OpOk_quiet fun w G ρ H A act hr _ hop => ⟨.int .i64 str.size, ?_, .lit⟩
  have ex : act.eval x = .string str := V_bool (hop x (by simp [ho, Op.operands, Call.operands]) _ hx)
  simp [execOp, ho, resolve, invoke, builtin, Builtin.len_, hty, ex, run_underlying (isStrT_spec ht), goInt]

theorem idxStr_ok {t : Nat} {x y : Operand} {str : ByteArray} {kk : IntKind} {i : Int} (ho : o.op = .index t x y) (ht : isStrT P t = true) (hx : ev x = some (.lit (.string str))) (hy : ev y = some (.lit (.int kk i))) (h0 : 0 ≤ i) (h1 : i < str.size) :
    OpOk P Γ o ev get k ⟨.lit (.int .u8 ((str.data.toList.getD i.toNat 0).toNat)), k, [], []⟩ := by
  refine OpOk_quiet fun w G ρ H A act hr _ hop => ⟨_, ?_, .lit⟩
  have ex : act.eval x = .string str := V_bool (hop x (by simp [ho, Op.operands]) _ hx)
  have ey : act.eval y = .int kk i := V_bool (hop y (by simp [ho, Op.operands]) _ hy)
  have hlt : i.toNat < str.size := by omega
  have hg : str[i.toNat]? = some (str.data.toList.getD i.toNat 0) := by
    rw [getElem?_pos str i.toNat hlt]
    congr 1
    rw [List.getD_eq_getElem?_getD, List.getElem?_eq_getElem (by simpa using hlt)]
    rfl
  simp only [execOp, ho, ex, ey, Instr.index, asIntOf, Sem.run_bind, Sem.run_pure, Result.andThen_ok, run_underlying (isStrT_spec ht), if_pos h0, hg]

theorem moveO_some {x : Option AVal} {out : Out} (h : moveO k x = some out) : ∃ v, x = some v ∧ out = qOut k v := by
  cases x with
  | none => cases h
  | some v => cases h; exact ⟨v, rfl, rfl⟩

theorem maxmin_ok {x y : Operand} {ty : Array TypeId} {kk : IntKind} {a b : Int} {mx : Bool} (ho : o.op = .call { callee := .builtin (if mx then .max else .min), args := #[x, y], argTypes := ty }) (hx : ev x = some (.lit (.int kk a))) (hy : ev y = some (.lit (.int kk b))) :
    OpOk P Γ o ev get k ⟨.lit (.int kk (if mx then (if b > a then b else a) else (if b < a then b else a))), k, [], []⟩ := by
  refine OpOk_quiet fun w G ρ H A act hr _ hop => ⟨_, ?_, .lit⟩
  have ex : act.eval x = .int kk a := V_bool (hop x (by cases mx <;> simp [ho, Op.operands, Call.operands]) _ hx)
  have ey : act.eval y = .int kk b := V_bool (hop y (by cases mx <;> simp [ho, Op.operands, Call.operands]) _ hy)
  cases mx
  · simp [execOp, ho, resolve, invoke, builtin, ex, ey, Builtin.min_, Builtin.min2]
  · simp [execOp, ho, resolve, invoke, builtin, ex, ey, Builtin.max_, Builtin.max2]

theorem lenNil_ok {t : Nat} {x : Operand} {ty : Array TypeId} (ho : o.op = .call { callee := .builtin .len, args := #[x], argTypes := ty }) (hty : ty[0]? = some t) (ht : isSliceT P t = true) (hx : ev x = some (.lit (.slice none 0 0))) : OpOk P Γ o ev get k ⟨.lit (.int .i64 0), k, [], []⟩ := by
  refine OpOk_quiet fun w G ρ H A act hr _ hop => ⟨.int .i64 0, ?_, .lit⟩
  have ex : act.eval x = .slice none 0 0 := V_bool (hop x (by simp [ho, Op.operands, Call.operands]) _ hx)
  unfold isSliceT at ht
  split at ht
  · rename_i e hu
    simp [execOp, ho, resolve, invoke, builtin, Builtin.len_, hty, ex, run_underlying hu, goInt]
  · cases ht

theorem args1_some {args : Array Operand} {f : Operand → Option Out} {out : Out} (h : args1 args f = some out) : ∃ x, args = #[x] ∧ f x = some out := by
  unfold args1 at h
  split at h
  · rename_i x ha; exact ⟨x, by rw [← Array.toArray_toList (xs := args), ha], h⟩
  · cases h
theorem args2_some {args : Array Operand} {f : Operand → Operand → Option Out} {out : Out} (h : args2 args f = some out) : ∃ x y, args = #[x, y] ∧ f x y = some out := by
  unfold args2 at h
  split at h
  · rename_i x y ha; exact ⟨x, y, by rw [← Array.toArray_toList (xs := args), ha], h⟩
  · cases h

theorem aop_good {out : Out} (h : aop P Γ o ev get k = some out) : Good P Γ o ev get k out := by
  unfold aop at h
  split at h
  · rename_i x ho
    obtain ⟨v, hv, rfl⟩ := moveO_some h
    exact .quiet (move_ok (.inl ho) hv)
  · rename_i x ho
    obtain ⟨v, hv, rfl⟩ := moveO_some h
    exact .quiet (move_ok (.inr ho) hv)
  · rename_i c x y ho
    unfold pickO at h
    split at h
    · rename_i t hc
      obtain ⟨v, hv, rfl⟩ := moveO_some h
      exact .quiet (pick_ok ho hc hv)
    · cases h
  · rename_i x ho
    unfold nilO at h
    split at h
    · rename_i c hx; cases h; exact .quiet (nilCheck_ok ho hx (.inl ⟨c, rfl⟩))
    · rename_i i r c hx
      split at h
      · rename_i hi; cases h; exact ⟨nilCheck_ok ho hx (.inr ⟨i, r, c, rfl, hi⟩), fun id hid => by simp at hid; rw [hid]; exact hi, Nat.le_refl _⟩
      · cases h
    · cases h
  · rename_i s x f ho
    unfold fieldO at h
    split at h
    · rename_i off cells h1 hx; cases h; exact .quiet (fieldAddr_ok ho h1 (.inl ⟨cells, hx, rfl⟩))
    · rename_i off i r c h1 hx
      split at h
      · rename_i hi; cases h; exact ⟨fieldAddr_ok ho h1 (.inr ⟨i, r, c, hx, hi, rfl⟩), fun id hid => by simp at hid; rw [hid]; exact hi, Nat.le_refl _⟩
      · cases h
    · cases h
  · rename_i t x y ho; exact aIndexAddr_good ho h
  · rename_i t x ho; exact aLoad_good ho h
  · rename_i t x y ho; exact aStore_good ho h
  · rename_i t ho
    unfold newO at h
    split at h
    · rename_i cells hz; cases h; exact ⟨alloc_ok ho hz, fun id hid => by simp at hid, Nat.le_succ _⟩
    · cases h
  · rename_i t x ho
    unfold newO at h
    split at h
    · rename_i cells hz; cases h
      obtain ⟨v, hv, hc⟩ := Option.bind_eq_some_iff.1 hz
      exact ⟨box_ok ho hv hc, fun id hid => by simp at hid, Nat.le_succ _⟩
    · cases h
  · rename_i t parts ho; exact aBuild_good ho h
  · rename_i t len parts ho; exact aBuildSlice_good ho h
  · rename_i t x y ho; exact aMake_good ho h
  · rename_i t x lo hi ho; exact aSlice_good ho h
  · rename_i s x f ho
    unfold fieldVO at h
    split at h
    · rename_i off n ag cells h1 hx
      obtain ⟨v, hv, rfl⟩ := moveO_some h
      exact .quiet (field_ok ho h1 hx hv)
    · cases h
  · rename_i t x y ho
    unfold indexO at h
    split at h
    · rename_i cells kk i hx hy
      split at h
      · rename_i m s ag ha
        split at h
        · rename_i hc
          obtain ⟨v, hv, rfl⟩ := moveO_some h
          obtain ⟨e, hu, hs, hg⟩ := arrE_spec ha
          exact .quiet (index_agg_ok ho hu hg hs hx hy hc.1 hc.2 hv)
        · cases h
      · cases h
    · rename_i str kk i hx hy
      split at h
      · rename_i hc; cases h; exact .quiet (idxStr_ok ho hc.1 hx hy hc.2.1 hc.2.2)
      · cases h
    · cases h
  · rename_i x i ho
    unfold extractO at h
    split at h
    · rename_i vs hx
      obtain ⟨v, hv, rfl⟩ := moveO_some h
      exact .quiet (extract_ok ho hx hv)
    · cases h
  · rename_i f first caps ho
    split at h
    · rename_i hf
      unfold funO at h
      split at h
      · rename_i vs hv
        cases h
        have he : first = #[] := Array.eq_empty_of_size_eq_zero hf
        subst he
        obtain ⟨h1, h2⟩ := evArgs_spec hv
        exact .quiet (makeFunc_ok ho (by simpa using h1) (fun j x v hx hv' => h2 j x v (by rw [Array.getElem?_toList]; exact hx) hv'))
      · cases h
    · cases h
  · rename_i args ty ho
    split at h
    · cases h
    · rename_i hne
      obtain ⟨x, rfl, hq⟩ := args1_some h; replace h := hq; clear hq
      have hnum : ty[0]? = some (ty.toList.headD 0) := by
        cases hl : ty.toList with
        | nil => exact absurd (by simp [Array.toList_eq_nil_iff.1 hl]) hne
        | cons a r => rw [← Array.getElem?_toList, hl]; rfl
      cases hx : ev x with
      | none => rw [hx] at h; cases h
      | some v =>
        rw [hx] at h
        cases v with
        | rd s n f =>
          simp only [lenO] at h
          split at h
          · rename_i hs; cases h; exact .quiet (len_ok ho hnum hs hx (.inl ⟨s, f, rfl⟩))
          · cases h
        | sl id r n =>
          simp only [lenO] at h
          split at h
          · rename_i hc; cases h; exact ⟨len_ok ho hnum hc.1 hx (.inr ⟨id, r, rfl, hc.2⟩), fun id' hid => by simp at hid; rw [hid]; exact hc.2, Nat.le_refl _⟩
          · cases h
        | lit u =>
          cases u with
          | string str =>
            simp only [lenO] at h
            split at h
            · rename_i hs; cases h; exact .quiet (lenStr_ok ho hnum hs hx)
            · cases h
          | slice a n c =>
            cases a with
            | some => simp [lenO] at h
            | none =>
              cases n with
              | succ => simp [lenO] at h
              | zero =>
                cases c with
                | succ => simp [lenO] at h
                | zero =>
                  simp only [lenO] at h
                  split at h
                  · rename_i hs; cases h; exact .quiet (lenNil_ok ho hnum hs hx)
                  · cases h
          | _ => simp [lenO] at h
        | _ => simp [lenO] at h
  · rename_i args ty ho
    obtain ⟨x, y, rfl, hq⟩ := args2_some h; replace h := hq; clear hq
    split at h
    · rename_i ht
      have htys : ty = #[ty.toList.headD 0, ty.toList.headD 0] := by rw [← Array.toArray_toList (xs := ty)]; rw [ht]; simp
      generalize ty.toList.headD 0 = t at h htys
      subst htys
      exact aAppend_good ho h
    · cases h
  · rename_i args ty ho
    obtain ⟨x, y, rfl, hq⟩ := args2_some h; replace h := hq; clear hq
    unfold maxO at h
    split at h
    · rename_i k1 a k2 b hx hy
      split at h
      · rename_i he; subst he; cases h
        exact .quiet (maxmin_ok (mx := true) ho hx hy)
      · cases h
    · cases h
  · rename_i args ty ho
    obtain ⟨x, y, rfl, hq⟩ := args2_some h; replace h := hq; clear hq
    unfold minO at h
    split at h
    · rename_i k1 a k2 b hx hy
      split at h
      · rename_i he; subst he; cases h
        exact .quiet (maxmin_ok (mx := false) ho hx hy)
      · cases h
    · cases h
  · rename_i op t x y ty ho
    unfold binO at h
    split at h
    · rename_i a b hx hy
      obtain ⟨v, hv, rfl⟩ := moveO_some h
      simp only [Option.map_eq_some_iff] at hv
      obtain ⟨u, hu, rfl⟩ := hv
      exact .quiet (binV_ok ho hx hy hu)
    · rename_i v z _ hx hy
      split at h
      · rename_i neg hneg; exact aEq_good ho hneg hx hy h
      · cases h
    · cases h
  · rename_i op t x ho
    unfold unO at h
    split at h
    · rename_i a hx
      obtain ⟨v, hv, rfl⟩ := moveO_some h
      simp only [Option.map_eq_some_iff] at hv
      obtain ⟨u, hu, rfl⟩ := hv
      exact .quiet (unV_ok ho hx hu)
    · cases h
  · rename_i src dst x ho
    unfold convO at h
    split at h
    · rename_i k1 k' kk n h1 h2 hx; cases h; exact .quiet (conv_ok ho hx h1 h2)
    · cases h
  · cases h
end
end Go.AM
end

section
/-
  The abstract machine, part 16: a region run by the function of part 15; calls by what they return.
-/
namespace Go.AM

/-- What a call comes to: a value alone; or a value, names and blocks. -/
inductive Orc where
  | ret (v : AVal)
  | gen (v : AVal) (k' : Nat) (Hc Hout : Heap)

def Orc.out (c : Orc) (k : Nat) : Out :=
  match c with
  | .ret v => ⟨v, k, [], []⟩
  | .gen v k' Hc Hout => callOut v k' Hc Hout

def isCall (o : Oper) : Bool :=
  match o.op with
  | .call { callee := .value _, args := _, argTypes := _ } => true
  | _ => false

/-- the blocks of Hc stand in the heap -/
def inH (get : Nat → Option Blk) : Heap → Prop
  | [] => True
  | (id, B) :: r => get id = some B ∧ inH get r

def CallReq (P : Program) (Γ : List (Nat × List AVal)) (o : Oper) (ev : Operand → Option AVal) (get : Nat → Option Blk) (k : Nat) (c : Orc) : Prop :=
  match o.op with
  | .call { callee := .value f, args := args, argTypes := _ } => match ev f, evArgs ev args.toList with
    | some (.fn g caps), some vs => callable P g = true ∧ (match c with
      | .ret v => (vs ++ caps).all (bd fun _ => false) = true ∧ Pure P Γ g (vs ++ caps) v
      | .gen v k' Hc Hout => (vs ++ caps).all (bd (keyB Hc)) = true ∧ bdH (keyB Hc) Hc = true ∧ inH get Hc ∧ k ≤ k' ∧ Tr P Γ g k (vs ++ caps) Hc (fun k1 r1 H1 => k1 = k' ∧ r1 = v ∧ H1 = Hout))
    | _, _ => False
  | _ => False

/-- by the guard -/
def gcase (g : Option Bool) (X Y : Prop) : Prop :=
  match g with
  | none => False
  | some b => if b = true then Y else X
/-- by the operation's outcome -/
def ocase (g : Option Out) (f : Out → Prop) : Prop :=
  match g with
  | none => False
  | some out => f out
/-- by the next call's outcome -/
def ccase (cs : List Orc) (f : Orc → List Orc → Prop) : Prop :=
  match cs with
  | [] => False
  | c :: r => f c r

/-- the outcomes that are left where an operation is skipped -/
def skipC (o : Oper) (cs : List Orc) : List Orc := if isCall o = true then cs.tail else cs
def RunF (P : Program) (Γ : List (Nat × List AVal)) (all : Array Oper) : List Oper → List Orc → Nat → Fr → Heap → (List Foot → Nat → Fr → Heap → Prop) → Prop
  | [], _, k, fr, H, K => K [] k fr H
  | o :: r, cs, k, fr, H, K => gcase (guardOf all fr o) (RunF P Γ all r (skipC o cs) k (putO fr o.dst (.lit undef)) H (fun tr => K (⟨[], [], k, k⟩ :: tr)))
      (if isCall o = true then ccase cs fun c cs' => CallReq P Γ o (aeval Γ fr) (look H) k c ∧ RunF P Γ all r cs' (c.out k).k (putO fr o.dst (c.out k).v) (updH H (c.out k).upd) (fun tr => K (⟨(c.out k).rds, (c.out k).upd.map (·.1), k, (c.out k).k⟩ :: tr))
      else ocase (aop P Γ o (aeval Γ fr) (look H) k) fun out => RunF P Γ all r cs out.k (putO fr o.dst out.v) (updH H out.upd) (fun tr => K (⟨out.rds, out.upd.map (·.1), k, out.k⟩ :: tr)))

section
variable {P : Program} {Γ : List (Nat × List AVal)}

theorem inH_look {get : Nat → Option Blk} : ∀ {Hc : Heap}, inH get Hc → ∀ id B, look Hc id = some B → get id = some B
  | [], _, id, B, h => by simp [look] at h
  | (i, C) :: r, ⟨h1, h2⟩, id, B, h => by
    simp only [look] at h
    split at h
    · rename_i he; subst he; cases h; exact h1
    · exact inH_look h2 id B h

theorem keyB_nil : keyB [] = fun _ => false := funext fun i => rfl

theorem CallReq.good {o : Oper} {ev : Operand → Option AVal} {get : Nat → Option Blk} {k : Nat} {c : Orc} (h : CallReq P Γ o ev get k c) : Good P Γ o ev get k (c.out k) := by
  unfold CallReq at h
  split at h
  · rename_i f args ty ho
    split at h
    · rename_i g caps vs hf ha
      obtain ⟨hg, h⟩ := h
      cases c with
      | ret v =>
        obtain ⟨h1, h2⟩ := h
        have := call_ok (P := P) (Γ := Γ) (get := get) (k := k) (Hc := []) (Hout := []) (r := v) (k' := k) ho hg hf ha (by rw [keyB_nil]; exact h1) rfl (fun id B hB => by simp [look] at hB) (h2 k) (Nat.le_refl _)
        exact this
      | gen v k' Hc Hout =>
        obtain ⟨h1, h2, h3, h4, h5⟩ := h
        exact call_ok ho hg hf ha h1 h2 (inH_look h3) h5 h4
    · exact h.elim
  · exact h.elim

theorem RunF.run {all : Array Oper} : ∀ (l : List Oper) (cs : List Orc) (k : Nat) (fr : Fr) (H : Heap) (K : List Foot → Nat → Fr → Heap → Prop), RunF P Γ all l cs k fr H K → Run P Γ all l k fr H K := by
  intro l
  induction l with
  | nil => intro cs k fr H K h; exact h
  | cons o r ih =>
    intro cs k fr H K h
    simp only [RunF, gcase] at h
    split at h
    · exact h.elim
    · rename_i b hg
      split at h
      · rename_i hb
        subst hb
        split at h
        · unfold ccase at h
          split at h
          · exact h.elim
          · exact .inr ⟨hg, _, h.1.good, ih _ _ _ _ _ h.2⟩
        · unfold ocase at h
          split at h
          · exact h.elim
          · rename_i out ho; exact .inr ⟨hg, out, aop_good ho, ih _ _ _ _ _ h⟩
      · rename_i hb
        have : b = false := by simpa using hb
        subst this
        exact .inl ⟨hg, ih _ _ _ _ _ h⟩

/-- the slots that are kept -/
def restr (keep : List Nat) : Fr → Fr
  | [] => []
  | (t, v) :: r => if keep.contains t then (t, v) :: restr keep r else restr keep r
theorem look_restr {keep : List Nat} : ∀ {fr : Fr} {t : Nat} {v : AVal}, look (restr keep fr) t = some v → look fr t = some v
  | [], t, v, h => by simp [restr, look] at h
  | (a, x) :: r, t, v, h => by
    simp only [restr] at h
    simp only [look]
    split at h
    · simp only [look] at h
      split at h
      · rename_i he; rw [if_pos he]; exact h
      · rename_i he; rw [if_neg he]; exact look_restr h
    · rename_i hk
      by_cases he : a = t
      · subst he
        exfalso
        have : ∀ (l : Fr) u, look (restr keep l) a ≠ some u := by
          intro l
          induction l with
          | nil => intro u hu; simp [restr, look] at hu
          | cons y ys ih =>
            intro u hu
            obtain ⟨b, z⟩ := y
            simp only [restr] at hu
            split at hu
            · rename_i hb
              simp only [look] at hu
              split at hu
              · rename_i hab; subst hab; exact hk hb
              · exact ih u hu
            · exact ih u hu
        exact this r v h
      · rw [if_neg he]; exact look_restr h

variable {nt kb : Nat} {Q : AQ} {k : Nat} {fr : Fr} {H : Heap}

theorem wk_restr (keep : List Nat) (hk : kb ≤ k) : WkG kb k fr H k (restr keep fr) H :=
  ⟨hk, fun t v h => ⟨v, look_restr h, VLe.refl v⟩, fun id B h => ⟨B, h, BLe.refl B⟩, .inl rfl⟩

/-- A region, the slots keep kept. -/
theorem W_reg {id : Nat} {ops : Array Oper} (keep : List Nat) (cs : List Orc) (hd : dstOk nt ops = true)
    (h : ∀ K : List Foot → Nat → Fr → Heap → Prop, (∀ tr k' fr' H', (kb ≤ k' → Q .normal k' (restr keep fr') H') → K tr k' fr' H') → RunF P Γ ops ops.toList cs k fr H K) : W P Γ nt kb (.region id ops false) Q k fr H :=
  W_upG (W_region hd ((h _ fun tr k' fr' H' hq hk' => ⟨k', restr keep fr', H', wk_restr keep hk', hq hk'⟩).run))

/-- A region that draws its order, the slots keep kept. -/
theorem W_drw {id : Nat} {ops : Array Oper} (keep : List Nat) (cs : List Orc) (hm : P.follows .mixedOrders = true) (hd : dstOk nt ops = true)
    (h : ∀ K : List Foot → Nat → Fr → Heap → Prop, (∀ tr k' fr' H', drawOk ops tr = true → (kb ≤ k' → Q .normal k' (restr keep fr') H') → K tr k' fr' H') → RunF P Γ ops ops.toList cs k fr H K) : W P Γ nt kb (.region id ops true) Q k fr H :=
  W_upG (W_draw hm hd ((h _ fun tr k' fr' H' hd' hq => ⟨hd', fun hk' => ⟨k', restr keep fr', H', wk_restr keep hk', hq hk'⟩⟩).run))
end

/- Integers. -/
theorem wrap_i64 {n : Int} (h1 : -9223372036854775808 ≤ n) (h2 : n ≤ 9223372036854775807) : IntKind.i64.wrap n = n := by rw [IntKind.wrap_i64]; omega

/- The steps of the run, as equations. -/
section
variable {P : Program} {Γ : List (Nat × List AVal)} {all : Array Oper} {r : List Oper} {cs : List Orc} {k : Nat} {fr : Fr} {H : Heap} {K : List Foot → Nat → Fr → Heap → Prop}
variable {d : Option Nat} {ty : TypeId} {pos : String} {af : Array Edge}

theorem guard_none {op : Op} : guardOf all fr ⟨d, op, ty, pos, af, none⟩ = some true := rfl
end
end Go.AM
end
