import Derived.Test.YtkiadljldlppbaaGreatDoorZAB
import Derived.Laws.StructEq
set_option linter.unusedVariables false
set_option linter.unusedSimpArgs false
section
namespace Go.AM
section
variable {P : Program} {Γ : List (Nat × List AVal)} {nt kb : Nat} {Q : AQ} {k : Nat} {fr : Fr} {H : Heap}
variable {A0 : Allow} {ops : Array Oper} {kf : Nat → Nat} {frf : Nat → Fr} {Hf : Nat → Heap} {outf : Nat → Option Out}
theorem count_lt {p p' : Nat → Bool} : ∀ (l : List Nat) (x : Nat), (∀ y, p' y = true → p y = true) → x ∈ l → p x = true → p' x = false → l.countP p' < l.countP p
  | [], x, _, h, _, _ => by simp at h
  | y :: r, x, hp, h, h1, h2 => by
    have hle : r.countP p' ≤ r.countP p := List.countP_mono_left (fun z _ hz => hp z hz)
    rw [List.countP_cons, List.countP_cons]
    rcases List.mem_cons.1 h with rfl | h
    · rw [h1, h2]; simp; omega
    · have ih := count_lt r x hp h h1 h2
      cases hy : p' y with
      | true => rw [hp y hy]; simp; exact ih
      | false => simp; omega
def unlisted (ops : Array Oper) (listed : Array Bool) : Nat := (List.range ops.size).countP fun j => !listed.getD j false
theorem draw_any (T : Text A0 P Γ ops kf frf Hf outf) (hd : dstOk nt ops = true) {w0 : World} {G0 : Nat → Prop} {ρ0 : Names} {Q' : Exit → Act → World → Prop}
    (hQ : ∀ w G ρ a, DInv A0 Γ nt ops kf (frf 0) (Hf 0) outf (fun j => decide (j < ops.size)) w G ρ a → Step (below (kf 0)) w0 G0 ρ0 w G ρ → Q' .normal a w) :
    ∀ (fuel : Nat) (listed : Array Bool) (w : World) (G : Nat → Prop) (ρ : Names) (a : Act), listed.size = ops.size → unlisted ops listed ≤ fuel →
      (∀ i o e, listed.getD i false = true → ops[i]? = some o → e ∈ o.after → Region.binds .any e = true → listed.getD e.on false = true) →
      DInv A0 Γ nt ops kf (frf 0) (Hf 0) outf (fun j => listed.getD j false) w G ρ a → Step (below (kf 0)) w0 G0 ρ0 w G ρ → wpAny P .any ops Q' fuel listed a w := by
  have hall : ∀ (listed : Array Bool), listed.size = ops.size → Region.ready .any ops listed = [] → ∀ j, j < ops.size → listed.getD j false = true := by
    intro listed hsz hr j
    induction j using Nat.strongRecOn with
    | _ j ih =>
      intro hj
      cases hl : listed.getD j false with
      | true => rfl
      | false =>
        have hmem : j ∈ Region.ready .any ops listed := by
          unfold Region.ready
          rw [List.mem_filter]
          refine ⟨List.mem_range.2 hj, ?_⟩
          have ho : ops[j]? = some ops[j] := Array.getElem?_eq_getElem hj
          have h1 : listed.getD j true = false := by
            rw [Array.getD_eq_getD_getElem?, Array.getElem?_eq_getElem (by omega)] at hl ⊢
            simpa using hl
          rw [h1, ho]
          simp only [Option.map_some, Option.getD_some, Bool.not_false, Bool.true_and]
          rw [Array.all_eq_true']
          intro e he
          by_cases hb : Region.binds .any e = true
          · have hlt := T.low j _ e ho he hb
            rw [ih e.on hlt (by omega)]; simp
          · simp [hb]
        rw [hr] at hmem; simp at hmem
  have hend : ∀ (listed : Array Bool) w G ρ a, listed.size = ops.size → DInv A0 Γ nt ops kf (frf 0) (Hf 0) outf (fun j => listed.getD j false) w G ρ a → Step (below (kf 0)) w0 G0 ρ0 w G ρ →
      Region.ready .any ops listed = [] → Q' .normal a w := by
    intro listed w G ρ a hsz hinv hst hr
    have hl := hall listed hsz hr
    have he : (fun j => listed.getD j false) = fun j => decide (j < ops.size) := funext fun j => by
      by_cases hj : j < ops.size
      · rw [hl j hj]; simp [hj]
      · rw [Array.getD_eq_getD_getElem?, Array.getElem?_eq_none (by omega)]; simp; omega
    rw [he] at hinv
    exact hQ w G ρ a hinv hst
  intro fuel
  induction fuel with
  | zero =>
    intro listed w G ρ a hsz hcnt hed hinv hst
    have hr : Region.ready .any ops listed = [] := by
      rw [List.eq_nil_iff_forall_not_mem]
      intro i hi
      unfold Region.ready at hi
      rw [List.mem_filter] at hi
      obtain ⟨h1, h2⟩ := hi
      simp only [Bool.and_eq_true, Bool.not_eq_true'] at h2
      have hlt := List.mem_range.1 h1
      have h3 : listed.getD i false = false := by
        have h4 := h2.1
        rw [Array.getD_eq_getD_getElem?, Array.getElem?_eq_getElem (by omega)] at h4 ⊢
        simpa using h4
      have h5 : 0 < unlisted ops listed := by
        unfold unlisted
        rw [List.countP_pos_iff]
        exact ⟨i, h1, by rw [h3]; rfl⟩
      omega
    exact ⟨hr, hend listed w G ρ a hsz hinv hst hr⟩
  | succ fuel ih =>
    intro listed w G ρ a hsz hcnt hed hinv hst
    refine ⟨hend listed w G ρ a hsz hinv hst, fun i hi => ?_⟩
    unfold Region.ready at hi
    rw [List.mem_filter] at hi
    obtain ⟨h1, h2⟩ := hi
    have hlt := List.mem_range.1 h1
    have ho : ops[i]? = some ops[i] := Array.getElem?_eq_getElem hlt
    rw [ho] at h2
    simp only [Option.map_some, Option.getD_some, Bool.and_eq_true, Bool.not_eq_true'] at h2
    have h3 : listed.getD i false = false := by
      have h4 := h2.1
      rw [Array.getD_eq_getD_getElem?, Array.getElem?_eq_getElem (by omega)] at h4 ⊢
      simpa using h4
    have hrdy : ∀ e, e ∈ (ops[i]).after → Region.binds .any e = true → listed.getD e.on false = true := fun e he hb => by
      have := Array.all_eq_true'.1 h2.2 e he
      simpa [hb] using this
    have hset : (fun j => (listed.setIfInBounds i true).getD j false) = fun j => if j = i then true else listed.getD j false := funext fun j => by
      by_cases hj : j = i
      · subst hj
        rw [if_pos rfl, Array.getD_eq_getD_getElem?, Array.getElem?_setIfInBounds_self_of_lt (by omega)]; rfl
      · rw [if_neg hj, Array.getD_eq_getD_getElem?, Array.getElem?_setIfInBounds_ne (fun e => hj e.symm), ← Array.getD_eq_getD_getElem?]
    refine draw_step T hd (D := fun j => listed.getD j false) (fun j hj => ?_) (closed_of_edges hed) ho h3 hrdy hinv (fun w' G' ρ' a' hinv' hst' => ?_)
    · by_cases hjl : j < ops.size
      · exact hjl
      · rw [Array.getD_eq_getD_getElem?, Array.getElem?_eq_none (by omega)] at hj; simp at hj
    · refine ih (listed.setIfInBounds i true) w' G' ρ' a' (by simp [hsz]) ?_ ?_ (by rw [hset]; exact hinv') (hst.trans hst' (fun _ h => h))
      · have hlt' : unlisted ops (listed.setIfInBounds i true) < unlisted ops listed := by
          unfold unlisted
          refine count_lt (List.range ops.size) i (fun y hy => ?_) h1 (by rw [h3]; rfl) (by rw [congrFun hset i]; simp)
          have := congrFun hset y
          rw [this] at hy
          by_cases hyi : y = i
          · rw [if_pos hyi] at hy; simp at hy
          · rw [if_neg hyi] at hy; exact hy
        omega
      · intro j oj e hj hoj he hb
        have e1 := congrFun hset j
        have e2 := congrFun hset e.on
        rw [e2]
        rw [e1] at hj
        by_cases hji : j = i
        · subst hji
          rw [ho] at hoj; cases hoj
          by_cases hei : e.on = j
          · rw [if_pos hei]
          · rw [if_neg hei]; exact hrdy e he hb
        · rw [if_neg hji] at hj
          by_cases hei : e.on = i
          · rw [if_pos hei]
          · rw [if_neg hei]; exact hed j oj e hj hoj he hb
theorem W_draw {id : Nat} (hm : P.follows .mixedOrders = true) (hd : dstOk nt ops = true) (h : Run P Γ ops ops.toList k fr H (fun tr k' fr' H' => drawOk ops tr = true ∧ (kb ≤ k' → Q .normal k' fr' H'))) :
    W P Γ nt kb (.region id ops true) Q k fr H := fun C0 hC0 hk w G ρ a hi => by
  obtain ⟨A0, hA0e⟩ : ∃ A0, A0 = alw C0 kb k := ⟨_, rfl⟩
  have hlt0 := alw_lt (A0 := C0) hC0 hk
  obtain ⟨kf, frf, Hf, outf, h1, h2, h3, h4, tr, h5, h6, h7, h8⟩ := run_text (P := P) (Γ := Γ) (ops := ops) ops.toList k fr H _ h
  rw [Array.length_toList] at h5 h8
  have hstep : ∀ j o, ops[j]? = some o → TStep P Γ ops o (kf j) (frf j) (Hf j) (outf j) (kf (j + 1)) (frf (j + 1)) (Hf (j + 1)) := fun j o hj => h4 j o (by rw [Array.getElem?_toList]; exact hj)
  have hfoot : ∀ j, j < ops.size → tr[j]? = some (footOf (kf j) (kf (j + 1)) (outf j)) := fun j hj => h6 j (by simpa using hj)
  have hrow : ∀ i oi, ops[i]? = some oi → (oi.after.toList.all fun e => !Region.binds .any e || decide (e.on < i)) = true ∧ ((footOf (kf i) (kf (i + 1)) (outf i)).mods.all fun x => decide (x < kf (i + 1))) = true ∧
      ∀ j oj, j < i → ops[j]? = some oj → clash ops oj (footOf (kf j) (kf (j + 1)) (outf j)) oi (footOf (kf i) (kf (i + 1)) (outf i)) = true → befB ops ops.size j i = true := fun i oi hoi => by
    have hlt := (Array.getElem?_eq_some_iff.1 hoi).1
    have := List.all_eq_true.1 h7 i (List.mem_range.2 hlt)
    rw [hoi, hfoot i hlt] at this
    simp only [Bool.and_eq_true] at this
    obtain ⟨⟨t1, t2⟩, t3⟩ := this
    refine ⟨t1, ?_, fun j oj hj hoj hcl => ?_⟩
    · cases hout : outf i with
      | none => simp [footOf]
      | some out => rw [hout] at t2; exact t2
    · have t4 := List.all_eq_true.1 t3 j (List.mem_range.2 hj)
      rw [hoj, hfoot j (by omega)] at t4
      simp only [Bool.or_eq_true, Bool.not_eq_true'] at t4
      rcases t4 with t4 | t4
      · rw [hcl] at t4; cases t4
      · exact t4
  have T : Text A0 P Γ ops kf frf Hf outf := {
    init := fun x hx => by rw [hA0e] at hx; rw [h1]; exact hlt0 x hx
    step := hstep
    low := fun i o e ho he hb => by
      have := List.all_eq_true.1 (hrow i o ho).1 e (by simpa using he)
      simpa [hb] using this
    mods := fun i o out x ho hout hx => by
      have := List.all_eq_true.1 (hrow i o ho).2.1 x (by rw [foot_mods hout]; exact hx)
      simpa using this
    apart := fun i j oi oj hj hoi hoj hcl => befB_spec _ _ _ ((hrow i oi hoi).2.2 j oj hj hoj hcl) }
  refine wp_region_any hm ?_
  have hrep : ∀ j, (Array.replicate ops.size false).getD j false = false := fun j => by
    rw [Array.getD_eq_getD_getElem?, Array.getElem?_replicate]; split <;> rfl
  have hemptyF : ∀ m t, frD A0 ops kf (frf 0) outf (fun j => (Array.replicate ops.size false).getD j false) m t = (look (frf 0) t).map fun v => (v, A0) := fun m t => by
    induction m with
    | zero => rfl
    | succ m ih => simp only [frD]; rw [if_neg (by rw [hrep]; simp)]; exact ih
  have hemptyH : ∀ m id, HD A0 ops kf (Hf 0) outf (fun j => (Array.replicate ops.size false).getD j false) m id = ofHeap (Hf 0) A0 id := fun m id => by
    induction m with
    | zero => rfl
    | succ m ih => simp only [HD]; rw [if_neg (by rw [hrep]; simp)]; exact ih
  refine draw_any T hd (w0 := w) (G0 := G) (ρ0 := ρ) (Q' := Post Γ nt C0 kb w G ρ Q) (fun w' G' ρ' a' hinv hst => ?_) ops.size _ { w with drawn := w.drawn + 1 } G ρ a (by simp) ?_ (fun i o e hl => by rw [hrep] at hl; cases hl) ⟨?_, hi.size, hi.defers, fun t v A hv => ?_⟩ (step_same _ rfl rfl rfl rfl)
  ·
    have hkn : kb ≤ kf ops.size := Nat.le_trans (by rw [h1]; exact hk) (kf_mono T ops.size 0 (by omega) (Nat.le_refl _))
    have hold : ∀ x, A0 x → alw C0 kb (kf ops.size) x := fun x hx => by
      have h0 := kf_mono T ops.size 0 (by omega) (Nat.le_refl _)
      rw [hA0e] at hx
      rcases hx with hx | hx
      · exact .inl hx
      · exact .inr ⟨hx.1, by omega⟩
    have hnw : ∀ j, j < ops.size → ∀ x, newN kf j x → alw C0 kb (kf ops.size) x := fun j hj x hn => by
      have h0 := kf_mono T j 0 (by omega) (by omega)
      have := kf_mono T ops.size (j + 1) (by omega) (Nat.le_refl _)
      unfold newN at hn
      exact .inr ⟨by omega, by omega⟩
    have hle : ∀ j, j < ops.size → ∀ x, Aop A0 ops kf j x → alw C0 kb (kf ops.size) x := fun j hj x hx => by
      rcases hx with (hx | ⟨l, hl, _, hn⟩) | hn
      · exact hold x hx
      · exact hnw l hl x hn
      · exact hnw j hj x hn
    have hF : ∀ t, frD A0 ops kf (frf 0) outf (fun j => decide (j < ops.size)) ops.size t = frD A0 ops kf (frf 0) outf (fun _ => true) ops.size t := fun t => frD_congr _ (fun j hj _ => by simp [hj])
    have hH : ∀ id, HD A0 ops kf (Hf 0) outf (fun j => decide (j < ops.size)) ops.size id = HD A0 ops kf (Hf 0) outf (fun _ => true) ops.size id := fun id => HD_congr _ (fun j hj _ => by simp [hj])
    have hFA : ∀ t m, m ≤ ops.size → ∀ v A, frD A0 ops kf (frf 0) outf (fun _ => true) m t = some (v, A) → ∀ x, A x → alw C0 kb (kf ops.size) x := fun t m => by
      induction m with
      | zero =>
        intro _ v A h x hx
        simp only [frD, Option.map_eq_some_iff] at h
        obtain ⟨u, _, he⟩ := h
        cases he
        exact hold x hx
      | succ m ih =>
        intro hm v A h x hx
        simp only [frD, true_and] at h
        split at h
        · cases h; exact hle m (by omega) x hx
        · exact ih (by omega) v A h x hx
    have hHA : ∀ id m, m ≤ ops.size → ∀ B A, HD A0 ops kf (Hf 0) outf (fun _ => true) m id = some (B, A) → ∀ x, A x → alw C0 kb (kf ops.size) x := fun id m => by
      induction m with
      | zero =>
        intro _ v A h x hx
        simp only [HD, ofHeap, Option.map_eq_some_iff] at h
        obtain ⟨u, _, he⟩ := h
        cases he
        exact hold x hx
      | succ m ih =>
        intro hm B A h x hx
        simp only [HD, if_true] at h
        cases hmod : modAt outf m id with
        | none => rw [hmod] at h; exact ih (by omega) B A h x hx
        | some y =>
          rw [hmod] at h
          simp only [Option.map_eq_some_iff] at h
          obtain ⟨B', _, he⟩ := h
          cases he
          exact hle m (by omega) x hx
    have hst' : Step (below kb) w G ρ w' G' ρ' := ⟨hst.size, hst.keep, hst.shape, hst.g, hst.g', hst.own, fun x hx => hst.ids x (by simp only [below] at hx ⊢; omega), hst.os, hst.tape, hst.output⟩
    refine ⟨G', ρ', kf ops.size, frf ops.size, Hf ops.size, h8 hkn, hkn, ⟨?_, hinv.size, hinv.defers, fun t v hv => ?_⟩, hst'⟩
    · refine hinv.rel.allow _ (fun id hid => ?_) (fun id B A' hid => ?_)
      · simp only [ofHeap, Option.map_eq_none_iff] at hid
        rw [← HD_text T (id := id) ops.size (Nat.le_refl _)] at hid
        rw [hH]
        simpa using hid
      · simp only [ofHeap, Option.map_eq_some_iff] at hid
        obtain ⟨B', hB', he⟩ := hid
        cases he
        rw [← HD_text T (id := id) ops.size (Nat.le_refl _)] at hB'
        simp only [Option.map_eq_some_iff] at hB'
        obtain ⟨⟨B1, A1⟩, h9, h10⟩ := hB'
        simp only at h10; subst h10
        exact ⟨A1, by rw [hH]; exact h9, hHA id ops.size (Nat.le_refl _) _ A1 h9⟩
    · rw [← frD_text T (t := t) ops.size (Nat.le_refl _)] at hv
      simp only [Option.map_eq_some_iff] at hv
      obtain ⟨⟨v1, A1⟩, h9, h10⟩ := hv
      simp only at h10; subst h10
      exact (hinv.frm t v1 A1 (by rw [hF]; exact h9)).mono (fun _ h => h) (fun _ _ => rfl) (fun _ _ => rfl) (hFA t ops.size (Nat.le_refl _) v1 A1 h9) (fun _ _ => .inr rfl)
  · unfold unlisted
    refine Nat.le_trans (List.countP_le_length) ?_
    simp
  · have : HD A0 ops kf (Hf 0) outf (fun j => (Array.replicate ops.size false).getD j false) ops.size = ofHeap (Hf 0) A0 := funext fun id => hemptyH ops.size id
    rw [this, h3, hA0e]
    exact hi.rel.same rfl rfl rfl rfl
  · rw [hemptyF] at hv
    simp only [Option.map_eq_some_iff] at hv
    obtain ⟨u, hu, he⟩ := hv
    cases he
    rw [h2] at hu
    rw [hA0e]
    exact (hi.frm t _ hu).mono (w := w) (w' := { w with drawn := w.drawn + 1 }) (fun _ h => h) (fun _ _ => rfl) (fun _ _ => rfl) (fun _ h => h) (fun _ _ => .inr rfl)
end
end Go.AM
end
section
namespace Go.AM
def callable (P : Program) (g : FuncId) : Bool :=
  match P.funcs[g]? with
  | some fn => fn.body.isSome && fn.name != "runtime.NumGoroutine"
  | none => false
def callOut (v : AVal) (k' : Nat) (Hc Hout : Heap) : Out := ⟨v, k', (Hout.map fun x => (x.1, some x.2)) ++ (Hc.map fun x => (x.1, none)), Hc.map (·.1)⟩
def evArgs (ev : Operand → Option AVal) : List Operand → Option (List AVal)
  | [] => some []
  | x :: r => match ev x, evArgs ev r with
    | some v, some vs => some (v :: vs)
    | _, _ => none
theorem evArgs_spec {ev : Operand → Option AVal} : ∀ {xs : List Operand} {vs : List AVal}, evArgs ev xs = some vs → vs.length = xs.length ∧ ∀ (j : Nat) x v, xs[j]? = some x → vs[j]? = some v → ev x = some v
  | [], vs, h => by cases h; exact ⟨rfl, fun j x v hx => by simp at hx⟩
  | x :: r, vs, h => by
    simp only [evArgs] at h
    split at h
    · rename_i v vs' h1 h2
      cases h
      obtain ⟨h3, h4⟩ := evArgs_spec h2
      refine ⟨by simp [h3], fun j y u hy hu => ?_⟩
      cases j with
      | zero => cases hy; cases hu; exact h1
      | succ j => exact h4 j y u (by simpa using hy) (by simpa using hu)
    · cases h
theorem look_mem {α : Type} : ∀ {l : List (Nat × α)} {i : Nat} {x : α}, look l i = some x → (i, x) ∈ l
  | [], i, x, h => by simp [look] at h
  | (a, y) :: r, i, x, h => by
    simp only [look] at h
    split at h
    · rename_i he; subst he; cases h; simp
    · exact List.mem_cons_of_mem _ (look_mem h)
theorem look_none {α : Type} : ∀ {l : List (Nat × α)} {i : Nat}, look l i = none → ∀ x, (i, x) ∉ l
  | [], i, _, x, hx => by simp at hx
  | (a, y) :: r, i, h, x, hx => by
    simp only [look] at h
    split at h
    · cases h
    · rename_i hne
      rcases List.mem_cons.1 hx with he | he
      · cases he; exact hne rfl
      · exact look_none h x he
theorem look_isSome {α : Type} {l : List (Nat × α)} {i : Nat} {x : α} (h : (i, x) ∈ l) : ∃ y, look l i = some y := by
  cases hl : look l i with
  | none => exact absurd h (look_none hl x)
  | some y => exact ⟨y, rfl⟩
theorem modOf_call (Hc Hout : Heap) (id : Nat) : modOf ((Hout.map fun x => (x.1, some x.2)) ++ (Hc.map fun x => (x.1, (none : Option Blk)))) id =
    match look Hout id with | some B => some (some B) | none => (match look Hc id with | some _ => some none | none => none) := by
  unfold modOf
  induction Hout with
  | nil =>
    simp only [List.map_nil, List.nil_append, look]
    induction Hc with
    | nil => rfl
    | cons x r ih =>
      simp only [List.map_cons, look]
      by_cases h : x.1 = id
      · rw [if_pos h, if_pos h]
      · rw [if_neg h, if_neg h]; exact ih
  | cons x r ih =>
    simp only [List.map_cons, List.cons_append, look]
    by_cases h : x.1 = id
    · rw [if_pos h, if_pos h]
    · rw [if_neg h, if_neg h]; exact ih
def keyB (Hc : Heap) : Nat → Bool := fun i => (look Hc i).isSome
section
variable {P : Program} {Γ : List (Nat × List AVal)} {o : Oper} {ev : Operand → Option AVal} {get : Nat → Option Blk} {k : Nat}
theorem run_call {f : Operand} {args : Array Operand} {ty : Array TypeId} {g : FuncId} (ho : o.op = .call { callee := .value f, args := args, argTypes := ty }) (hg : callable P g = true) (a : Act) (cs : Array Value)
    (hf : a.eval f = .func (.func g) #[] cs) (w : World) : (execOp a.eval o).run P w = .ok (.enter g (args.map a.eval ++ cs)) w := by
  unfold callable at hg
  split at hg
  · rename_i fn hfn
    simp only [Bool.and_eq_true, bne_iff_ne, ne_eq] at hg
    obtain ⟨h1, h2⟩ := hg
    have h3 : fn.body.isNone = false := by cases hb : fn.body with
      | none => rw [hb] at h1; simp at h1
      | some _ => rfl
    simp only [execOp, ho, resolve, hf, Deferred.ofValue, Sem.run_bind, Sem.run_pure, Result.andThen_ok, invoke, callFunc, run_program, hfn]
    rw [if_neg (by simpa using h2)]
    simp [h3]
  · cases hg
theorem call_core {g : FuncId} {vs : List AVal} {Hc Hout : Heap} {r : AVal} {k' : Nat}
    (hrun : ∀ w G ρ (A : Allow) (a : Act), (∀ x, x ∈ o.op.operands → ∀ v, ev x = some v → V w G ρ A v (a.eval x)) → ∃ cargs, (execOp a.eval o).run P w = .ok (.enter g cargs) w ∧ Vs w G ρ A vs cargs)
    (hb : vs.all (bd (keyB Hc)) = true) (hbH : bdH (keyB Hc) Hc = true) (hin : ∀ id B, look Hc id = some B → get id = some B)
    (hT : Tr P Γ g k vs Hc (fun k1 r1 H1 => k1 = k' ∧ r1 = r ∧ H1 = Hout)) (hk : k ≤ k') : Good P Γ o ev get k (callOut r k' Hc Hout) := by
  refine ⟨?_, fun id hid => ?_, hk⟩
  · intro w G ρ H A a hr hA hfr hrd hop next Q hn
    obtain ⟨cargs, hrunc, hVs0⟩ := hrun w G ρ A a hop
    have hHc : ∀ id B, look Hc id = some B → ∃ A', H id = some (B, A') ∧ ∀ i, A' i → A i := fun id B hB => by
      obtain ⟨B', A', h1, h2, h3⟩ := hrd id (by simp only [callOut, List.mem_map]; exact ⟨(id, B), look_mem hB, rfl⟩)
      rw [hin id B hB] at h1; cases h1
      exact ⟨A', h2, h3⟩
    let ρc : Names := fun id => if keyB Hc id = true then ρ id else none
    let Ac : Allow := fun i => A i ∧ keyB Hc i = true
    have hρc : ∀ id, keyB Hc id = true → ρc id = ρ id := fun id h => by simp only [ρc, h, if_true]
    have hρc0 : ∀ id, keyB Hc id = false → ρc id = none := fun id h => by simp only [ρc, h]; rfl
    have toC : ∀ v cv, V w G ρ (fun i => A i ∧ keyB Hc i = true) v cv → V w G ρc Ac v cv := fun v cv h =>
      h.mono (fun _ h => h) (fun _ _ => rfl) (fun _ _ => rfl) (fun _ h => h) (fun i hi => .inr (hρc i hi.2))
    have hsomec : ∀ id x, ρc id = some x → ρ id = some x ∧ keyB Hc id = true := fun id x h => by
      cases hkb : keyB Hc id with
      | false => rw [hρc0 id hkb] at h; cases h
      | true => rw [hρc id hkb] at h; exact ⟨h, rfl⟩
    have hrelc : HRel Γ w G ρc (ofHeap Hc Ac) := by
      refine ⟨fun id hid => ?_, fun id B A1 hid => ?_, fun i j b s t hi hj => hr.inj i j b s t (hsomec _ _ hi).1 (hsomec _ _ hj).1, hr.ro, hr.glob⟩
      · simp only [ofHeap, Option.map_eq_none_iff] at hid
        exact hρc0 id (by simp [keyB, hid])
      · simp only [ofHeap, Option.map_eq_some_iff] at hid
        obtain ⟨B', hB', he⟩ := hid
        cases he
        obtain ⟨A', h1, h2⟩ := hHc id B hB'
        obtain ⟨h3, b, h4, h5, ⟨⟨C, ty', hC, hrows⟩, hlen⟩⟩ := hr.blk id B A' h1
        have hkb : keyB Hc id = true := by simp [keyB, hB']
        refine ⟨⟨h2 _ h3, hkb⟩, b, by rw [hρc id hkb]; exact h4, h5, ⟨⟨C, ty', hC, fun r row c v h6 h7 => ?_⟩, hlen⟩⟩
        obtain ⟨cv, h8, h9⟩ := hrows r row c v h6 h7
        refine ⟨cv, h8, ?_⟩
        by_cases hp : B.pure = true
        · simp only [hp, if_true] at h9 ⊢; exact h9
        · simp only [hp] at h9 ⊢
          have h10 := look_all hbH hB'
          simp only [Bool.and_eq_true, Bool.or_eq_true] at h10
          have h11 := all_get (all_get (h10.2.resolve_left hp) h6) h7
          have h12 : V w G ρ A v cv := h9.mono (fun _ h => h) (fun _ _ => rfl) (fun _ _ => rfl) h2 (fun _ _ => .inr rfl)
          exact toC _ _ (V_bd0 h12 h11)
    have hVs : Vs w G ρc Ac vs cargs := ⟨hVs0.1, fun j v hj => toC _ _ (V_bd (hVs0.2 j v hj) (all_get hb hj))⟩
    have hcall := hT Ac (fun i hi => hA i hi.1) w G ρc cargs hrelc hVs
    unfold Oper.wp
    rw [hrunc]
    refine hcall.mono fun e w' hp => ?_
    obtain ⟨cv, G', ρ', k1, r1, H1, rfl, ⟨rfl, rfl, rfl⟩, hkk, hrel', hV', hst'⟩ := hp
    have hHout : ∀ id B, look H1 id = some B → keyB Hc id = true ∨ (k ≤ id ∧ id < k1) := fun id B hB => by
      obtain ⟨h1, b, h2, _⟩ := hrel'.blk id B (alw Ac k k1) (by simp [ofHeap, hB])
      rcases h1 with h1 | h1
      · exact .inl h1.2
      · exact .inr h1
    let ρ'' : Names := fun id => if keyB Hc id = true ∨ keyB H1 id = true then ρ' id else ρ id
    have hn1 : ∀ id, keyB Hc id = true → ρ'' id = ρ' id := fun id h => by simp only [ρ'']; rw [if_pos (.inl h)]
    have hn2 : ∀ id, keyB H1 id = true → ρ'' id = ρ' id := fun id h => by simp only [ρ'']; rw [if_pos (.inr h)]
    have hn3 : ∀ id, keyB Hc id = false → keyB H1 id = false → ρ'' id = ρ id := fun id h h' => by simp only [ρ'']; rw [if_neg (by rw [h, h']; simp)]
    have hnew : ∀ id, k ≤ id → id < k1 → ρ'' id = ρ' id := fun id h1 h2 => by
      cases hkc : keyB Hc id with
      | true => exact hn1 id hkc
      | false =>
        cases hk1 : keyB H1 id with
        | true => exact hn2 id hk1
        | false =>
          rw [hn3 id hkc hk1, (hfr id h1 h2).1, hrel'.dom id (by simp only [ofHeap]; simp only [keyB] at hk1; simp at hk1; rw [hk1]; rfl)]
    have hkeyA : ∀ id, keyB Hc id = true → A id := fun id h => by
      obtain ⟨B, hB⟩ := Option.isSome_iff_exists.1 h
      obtain ⟨A', h1, h2⟩ := hHc id B hB
      exact h2 _ (hr.blk id B A' h1).1
    have hback : ∀ id, ¬ (k ≤ id ∧ id < k1) → ρ'' id = none ∨ ρ'' id = ρ id := fun id hid => by
      cases hkc : keyB Hc id with
      | true =>
        rw [hn1 id hkc]
        rcases hst'.ids id (hA id (hkeyA id hkc)) with h | h
        · exact .inl h
        · exact .inr (h.trans (hρc id hkc))
      | false =>
        cases hk1 : keyB H1 id with
        | true =>
          obtain ⟨B, hB⟩ := Option.isSome_iff_exists.1 hk1
          rcases hHout id B hB with h | h
          · rw [hkc] at h; cases h
          · exact absurd h hid
        | false => exact .inr (hn3 id hkc hk1)
    have hown : ∀ b, owned ρc b → owned ρ b := fun b ⟨id, s, h⟩ => ⟨id, s, (hsomec _ _ h).1⟩
    have hst : Step (fun i => ¬ (k ≤ i ∧ i < k1)) w G ρ w' G' ρ'' := by
      refine ⟨hst'.size, fun b hb ho' => hst'.keep b hb (fun h => ho' (hown b h)), hst'.shape, hst'.g, fun b hb => ?_, ?_, hback, hst'.os, hst'.tape, hst'.output⟩
      · rcases hst'.g' b hb with h | h | h
        · exact .inl h
        · exact .inr (.inl (hown b h))
        · exact .inr (.inr h)
      · rintro b ⟨id, s, h⟩
        simp only [ρ''] at h
        split at h
        · rcases hst'.own b ⟨id, s, h⟩ with h | h
          · exact .inl (hown b h)
          · exact .inr h
        · exact .inl ⟨id, s, h⟩
    have hVV : ∀ v cv, V w' G' ρ' (alw Ac k k1) v cv → V w' G' ρ'' (fun i => A i ∨ (k ≤ i ∧ i < k1)) v cv := fun v cv h =>
      h.mono (fun _ h => h) (fun _ _ => rfl) (fun _ _ => rfl) (fun i hi => hi.imp (fun h => h.1) id) (fun i hi => by
        rcases hi with hi | hi
        · exact .inr (hn1 i hi.2)
        · exact .inr (hnew i hi.1 hi.2))
    refine hn w' G' ρ'' cv ?_ (hVV _ _ hV') hst
    have hupd : ∀ id, updO H (fun i => A i ∨ (k ≤ i ∧ i < k1)) (callOut r1 k1 Hc H1).upd id = match look H1 id with | some B => some (B, fun i => A i ∨ (k ≤ i ∧ i < k1)) | none => (match look Hc id with | some _ => none | none => H id) := fun id => by
      rw [updO_modOf]
      show (match modOf ((H1.map fun x => (x.1, some x.2)) ++ (Hc.map fun x => (x.1, (none : Option Blk)))) id with | some x => x.map fun B => (B, fun i => A i ∨ (k ≤ i ∧ i < k1)) | none => H id) = _
      rw [modOf_call]
      cases look H1 id with
      | some B => rfl
      | none => cases look Hc id <;> rfl
    refine hr.after hst _ (fun id hid => ?_) (fun id B A1 hid => ?_) (fun i j b s t hi hj => ?_) hrel'.ro
    · have hid' : updO H (fun i => A i ∨ (k ≤ i ∧ i < k1)) (callOut r1 k1 Hc H1).upd id = none := hid
      rw [hupd] at hid'
      cases h1 : look H1 id with
      | some B => rw [h1] at hid'; cases hid'
      | none =>
        rw [h1] at hid'
        cases h2 : look Hc id with
        | some B =>
          rw [hn1 id (by simp [keyB, h2])]
          exact hrel'.dom id (by simp [ofHeap, h1])
        | none =>
          rw [h2] at hid'
          rw [hn3 id (by simp [keyB, h2]) (by simp [keyB, h1])]
          exact hr.dom id hid'
    · have hid' : updO H (fun i => A i ∨ (k ≤ i ∧ i < k1)) (callOut r1 k1 Hc H1).upd id = some (B, A1) := hid
      rw [hupd] at hid'
      cases h1 : look H1 id with
      | some B' =>
        rw [h1] at hid'
        cases hid'
        obtain ⟨h2, b, h3, h4, ⟨⟨C, ty', hC, hrows⟩, hlen⟩⟩ := hrel'.blk id B (alw Ac k k1) (by simp [ofHeap, h1])
        refine ⟨h2.imp (fun h => h.1) (fun h => h), .inr ⟨b, by rw [hn2 id (by simp [keyB, h1])]; exact h3, h4, ⟨⟨C, ty', hC, fun r row c v h6 h7 => ?_⟩, hlen⟩⟩⟩
        obtain ⟨cv', h8, h9⟩ := hrows r row c v h6 h7
        refine ⟨cv', h8, ?_⟩
        by_cases hp : B.pure = true
        · simp only [hp, if_true] at h9 ⊢; exact h9
        · simp only [hp] at h9 ⊢; exact hVV _ _ h9
      | none =>
        rw [h1] at hid'
        cases h2 : look Hc id with
        | some B' => rw [h2] at hid'; cases hid'
        | none =>
          rw [h2] at hid'
          obtain ⟨h3, b, h4, h5, _⟩ := hr.blk id B A1 hid'
          have hnc : ¬ owned ρc b := fun ⟨i', s', h⟩ => by
            obtain ⟨h6, h7⟩ := hsomec _ _ h
            have := hr.inj i' id _ _ _ h6 h4
            subst this
            simp [keyB, h2] at h7
          have hbl := hr.owned_lt ⟨id, _, h4⟩
          refine ⟨h3, .inl ⟨A1, b, hid', fun _ h => h, fun i hi hc => (hfr i hc.1 hc.2).2 id B A1 hid' hi, by rw [hn3 id (by simp [keyB, h2]) (by simp [keyB, h1])], h4, hst'.keep b hbl hnc, fun hg' => ?_⟩⟩
          rcases hst'.g' b hg' with h | h | h
          · exact h5 h
          · exact hnc h
          · omega
    ·
      have side : ∀ i s, ρ'' i = some (b, s) → (ρ' i = some (b, s) ∧ (keyB Hc i = true ∨ keyB H1 i = true)) ∨ (ρ i = some (b, s) ∧ keyB Hc i = false) := fun i s h => by
        simp only [ρ''] at h
        split at h
        · rename_i hc; exact .inl ⟨h, hc⟩
        · rename_i hc; exact .inr ⟨h, by cases hkc : keyB Hc i with | true => exact absurd (.inl hkc) hc | false => rfl⟩
      have cross : ∀ i j s t, ρ' i = some (b, s) → ρ j = some (b, t) → keyB Hc j = false → False := fun i j s t h1 h2 h3 => by
        rcases hst'.own b ⟨i, s, h1⟩ with ⟨i', s', h⟩ | h
        · obtain ⟨h4, h5⟩ := hsomec _ _ h
          have := hr.inj i' j _ _ _ h4 h2
          subst this
          rw [h3] at h5; cases h5
        · have := hr.owned_lt ⟨j, t, h2⟩; omega
      rcases side i s hi with ⟨h1, _⟩ | ⟨h1, h1'⟩ <;> rcases side j t hj with ⟨h2, _⟩ | ⟨h2, h2'⟩
      · exact hrel'.inj i j b s t h1 h2
      · exact (cross i j s t h1 h2 h2').elim
      · exact (cross j i t s h2 h1 h1').elim
      · exact hr.inj i j b s t h1 h2
  · simp only [callOut, List.mem_map] at hid
    obtain ⟨x, hx, rfl⟩ := hid
    obtain ⟨y, hy⟩ := look_isSome hx
    rw [hin _ y hy]; rfl
theorem args_Vs {w : World} {G : Nat → Prop} {ρ : Names} {A : Allow} {a : Act} {args : Array Operand} {vs : List AVal} (ha : evArgs ev args.toList = some vs) (hop : ∀ x, x ∈ args → ∀ v, ev x = some v → V w G ρ A v (a.eval x)) :
    Vs w G ρ A vs (args.map a.eval) := by
  obtain ⟨hal, haev⟩ := evArgs_spec ha
  refine ⟨by simp [hal], fun j v hj => ?_⟩
  have hlt := (List.getElem?_eq_some_iff.1 hj).1
  have hltA : j < args.size := by rw [hal] at hlt; simpa using hlt
  have hx : args[j]? = some args[j] := Array.getElem?_eq_getElem hltA
  have h2 := hop args[j] (by simp) v (haev j args[j] v (by rw [Array.getElem?_toList]; exact hx) hj)
  have e : (args.map a.eval).getD j undef = a.eval args[j] := by rw [Array.getD_eq_getD_getElem?, Array.getElem?_map, hx]; rfl
  rw [e]; exact h2
theorem Vs_append {w : World} {G : Nat → Prop} {ρ : Names} {A : Allow} {us vs : List AVal} {cs ds : Array Value} (h : Vs w G ρ A us cs) (g : Vs w G ρ A vs ds) : Vs w G ρ A (us ++ vs) (cs ++ ds) := by
  refine ⟨by simp [h.1, g.1], fun j v hj => ?_⟩
  rw [List.getElem?_append] at hj
  split at hj
  · rename_i hlt
    have e : (cs ++ ds).getD j undef = cs.getD j undef := by
      rw [Array.getD_eq_getD_getElem?, Array.getD_eq_getD_getElem?, Array.getElem?_append_left (by rw [← h.1]; exact hlt)]
    rw [e]; exact h.2 j v hj
  · rename_i hge
    have hs := h.1
    have e : (cs ++ ds).getD j undef = ds.getD (j - us.length) undef := by
      rw [Array.getD_eq_getD_getElem?, Array.getD_eq_getD_getElem?, Array.getElem?_append_right (by omega), hs]
    rw [e]; exact g.2 _ v hj
theorem call_ok {f : Operand} {args : Array Operand} {ty : Array TypeId} {g : FuncId} {caps vs : List AVal} {Hc Hout : Heap} {r : AVal} {k' : Nat}
    (ho : o.op = .call { callee := .value f, args := args, argTypes := ty }) (hg : callable P g = true) (hf : ev f = some (.fn g caps)) (ha : evArgs ev args.toList = some vs)
    (hb : (vs ++ caps).all (bd (keyB Hc)) = true) (hbH : bdH (keyB Hc) Hc = true) (hin : ∀ id B, look Hc id = some B → get id = some B)
    (hT : Tr P Γ g k (vs ++ caps) Hc (fun k1 r1 H1 => k1 = k' ∧ r1 = r ∧ H1 = Hout)) (hk : k ≤ k') : Good P Γ o ev get k (callOut r k' Hc Hout) :=
  call_core (fun w G ρ A a hop => by
    have hvf := hop f (by simp [ho, Op.operands, Call.operands]) _ hf
    generalize hev : a.eval f = cv at hvf
    cases hvf with
    | fn h1 h2 => exact ⟨_, run_call ho hg a _ hev w, Vs_append (args_Vs ha fun x hx v hv => hop x (by simp [ho, Op.operands, Call.operands, hx]) v hv) ⟨h1, h2⟩⟩) hb hbH hin hT hk
theorem callb_ok {f : Operand} {args : Array Operand} {ty : Array TypeId} {g : FuncId} {i r0 c0 : Nat} {vs : List AVal} {Hc Hout : Heap} {r : AVal} {k' : Nat}
    (ho : o.op = .call { callee := .value f, args := args, argTypes := ty }) (hg : callable P g = true) (hf : ev f = some (.bfn g i r0 c0)) (ha : evArgs ev args.toList = some vs)
    (hb : (.ptr i r0 c0 :: vs).all (bd (keyB Hc)) = true) (hbH : bdH (keyB Hc) Hc = true) (hin : ∀ id B, look Hc id = some B → get id = some B)
    (hT : Tr P Γ g k (.ptr i r0 c0 :: vs) Hc (fun k1 r1 H1 => k1 = k' ∧ r1 = r ∧ H1 = Hout)) (hk : k ≤ k') : Good P Γ o ev get k (callOut r k' Hc Hout) :=
  call_core (fun w G ρ A a hop => by
    have hvf := hop f (by simp [ho, Op.operands, Call.operands]) _ hf
    generalize hev : a.eval f = cv at hvf
    cases hvf with
    | bfn h1 =>
      rename_i c1
      refine ⟨#[c1] ++ args.map a.eval, ?_, Vs_append (us := [.ptr i r0 c0]) (cs := #[c1]) ⟨rfl, fun j v hj => ?_⟩ (args_Vs ha fun x hx v hv => hop x (by simp [ho, Op.operands, Call.operands, hx]) v hv)⟩
      · unfold callable at hg
        split at hg
        · rename_i fn hfn
          simp only [Bool.and_eq_true, bne_iff_ne, ne_eq] at hg
          obtain ⟨h3, h4⟩ := hg
          have h5 : fn.body.isNone = false := by cases hb : fn.body with
            | none => rw [hb] at h3; simp at h3
            | some _ => rfl
          simp only [execOp, ho, resolve, hev, Deferred.ofValue, Sem.run_bind, Sem.run_pure, Result.andThen_ok, invoke, callFunc, run_program, hfn]
          rw [if_neg (by simpa using h4)]
          simp [h5]
        · cases hg
      · cases j with
        | zero => cases hj; exact h1
        | succ j => simp at hj) hb hbH hin hT hk
def resV (P : Program) (fr : Fr) (H : Heap) : ResultVar → Option AVal
  | .tmp t => look fr t
  | .cell a t => match look fr a, tagg P t, tsz P t with
    | some (.ptr id r c), some ag, some n => (look H id).bind fun B => if r = 0 ∧ c = 0 ∧ B.sz < n then rowPart ag n B.rows.flatten 0 else (B.rows[r]?).bind fun row => rowPart ag n row c
    | _, _, _ => none
def resVs (P : Program) (fr : Fr) (H : Heap) : List ResultVar → Option (List AVal)
  | [] => some []
  | x :: r => match resV P fr H x, resVs P fr H r with
    | some v, some vs => some (v :: vs)
    | _, _ => none
def resA (P : Program) (fn : Func) (fr : Fr) (H : Heap) : Option AVal :=
  match resVs P fr H fn.results.toList with
  | some [v] => some v
  | some vs => some (.tup vs)
  | none => none
def retQ (P : Program) (fn : Func) (Q : Nat → AVal → Heap → Prop) : AQ
  | .normal, k, fr, H => ∃ r, resA P fn fr H = some r ∧ Q k r H
  | .ret, k, fr, H => ∃ r, resA P fn fr H = some r ∧ Q k r H
  | _, _, _, _ => False
def loadRes (tmps : Array Value) : ResultVar → Sem Value
  | .tmp t => pure (tmps.getD t undef)
  | .cell a t => do loadVar t (← asAddr (tmps.getD a undef))
theorem resV_run {A : Allow} {nt : Nat} {fr : Fr} {H : Heap} {w : World} {G : Nat → Prop} {ρ : Names} {a : Act} (hi : Inv Γ nt w G ρ A a fr H) {x : ResultVar} {v : AVal} (h : resV P fr H x = some v) :
    ∃ cv, (loadRes a.tmps x).run P w = .ok cv w ∧ V w G ρ A v cv := by
  cases x with
  | tmp t => exact ⟨_, rfl, hi.frm t v h⟩
  | cell ad t =>
    simp only [resV] at h
    split at h
    · rename_i id r c ag n h1 h2 h3
      obtain ⟨B, hB, h4⟩ := Option.bind_eq_some_iff.1 h
      have hv := hi.frm ad _ h1
      obtain ⟨_, b, hb, _, ⟨⟨C, ty, hC, hrows⟩, hlen⟩⟩ := hi.rel.blk id B A (by simp [ofHeap, hB])
      generalize hev : a.tmps.getD ad undef = cv at hv
      split at h4
      · rename_i hc0
        obtain ⟨rfl, rfl, _⟩ := hc0
        cases hv with
        | dang _ hn => rw [hb] at hn; cases hn
        | ptr ha hρ =>
          rw [hb] at hρ; cases hρ
          have hcell : ∀ (j : Nat) u, B.rows.flatten[j]? = some u → w.cell? ⟨b, 0 * B.sz + j, none⟩ = some (C.getD (0 * B.sz + j) undef) := fun j u hj => by
            obtain ⟨r, row, c, h3, h4, rfl⟩ := flat_get hlen j u hj
            obtain ⟨cv, h5, _⟩ := hrows r row c u h3 h4
            rw [Nat.zero_mul, Nat.zero_add, cell_of_row w b _ C ty (0, 0) hC, h5, Array.getD_eq_getD_getElem?, h5]; rfl
          have hval : ∀ (j : Nat) u, B.rows.flatten[j]? = some u → V w G ρ A u (C.getD (0 * B.sz + j) undef) := fun j u hj => by
            obtain ⟨r, row, c, h3, h4, rfl⟩ := flat_get hlen j u hj
            obtain ⟨cv, h5, h6⟩ := hrows r row c u h3 h4
            rw [Nat.zero_mul, Nat.zero_add, Array.getD_eq_getD_getElem?, h5]
            by_cases hp : B.pure = true
            · simp only [hp, if_true] at h6; exact h6.weaken
            · simp only [hp] at h6; exact h6
          obtain ⟨cv, hrun, hV⟩ := load_part (P := P) h2 h3 h4 (fun j => C.getD (0 * B.sz + j) undef) hcell hval
          refine ⟨cv, ?_, hV⟩
          simp only [Instr.loadAt, Instr.sureAddr, Sem.run_bind, Sem.run_pure, Result.andThen_ok] at hrun
          show Sem.run P (do loadVar t (← asAddr (a.tmps.getD ad undef))) w = _
          rw [hev]
          simpa [asAddr] using hrun
      obtain ⟨row, hrow, h5⟩ := Option.bind_eq_some_iff.1 h4
      cases hv with
      | dang _ hn => rw [hb] at hn; cases hn
      | ptr ha hρ =>
        rw [hb] at hρ; cases hρ
        have hcell : ∀ j u, row[j]? = some u → w.cell? ⟨b, r * B.sz + j, none⟩ = some (C.getD (r * B.sz + j) undef) := fun j u hj => by
          obtain ⟨cv, h3, _⟩ := hrows r row j u hrow hj
          rw [cell_of_row w b _ C ty (0, 0) hC, h3, Array.getD_eq_getD_getElem?, h3]; rfl
        have hval : ∀ j u, row[j]? = some u → V w G ρ A u (C.getD (r * B.sz + j) undef) := fun j u hj => by
          obtain ⟨cv, h3, h4⟩ := hrows r row j u hrow hj
          rw [Array.getD_eq_getD_getElem?, h3]
          by_cases hp : B.pure = true
          · simp only [hp, if_true] at h4; exact h4.weaken
          · simp only [hp] at h4; exact h4
        obtain ⟨cv, hrun, hV⟩ := load_part (P := P) h2 h3 h5 (fun j => C.getD (r * B.sz + j) undef) hcell hval
        refine ⟨cv, ?_, hV⟩
        simp only [Instr.loadAt, Instr.sureAddr, Sem.run_bind, Sem.run_pure, Result.andThen_ok] at hrun
        show Sem.run P (do loadVar t (← asAddr (a.tmps.getD ad undef))) w = _
        rw [hev]
        simp [asAddr, hrun]
    · cases h
theorem resVs_run {A : Allow} {nt : Nat} {fr : Fr} {H : Heap} {w : World} {G : Nat → Prop} {ρ : Names} {a : Act} (hi : Inv Γ nt w G ρ A a fr H) : ∀ {xs : List ResultVar} {vs : List AVal}, resVs P fr H xs = some vs →
    ∃ cs : List Value, (xs.mapM (loadRes a.tmps)).run P w = .ok cs w ∧ vs.length = cs.length ∧
      ∀ (j : Nat) v c, vs[j]? = some v → cs[j]? = some c → V w G ρ A v c
  | [], vs, h => by cases h; exact ⟨[], rfl, rfl, fun j v c hv => by simp at hv⟩
  | x :: r, vs, h => by
    simp only [resVs] at h
    split at h
    · rename_i v vs' h1 h2
      cases h
      obtain ⟨cv, h3, h4⟩ := resV_run hi h1
      obtain ⟨cs, h5, h6, h7⟩ := resVs_run hi h2
      refine ⟨cv :: cs, ?_, by simp [h6], fun j u c hu hc => ?_⟩
      · rw [List.mapM_cons, Sem.run_bind, h3, Result.andThen_ok, Sem.run_bind, h5]; rfl
      · cases j with
        | zero => cases hu; cases hc; exact h4
        | succ j => exact h7 j u c (by simpa using hu) (by simpa using hc)
    · cases h
theorem resA_run {A : Allow} {nt : Nat} {fn : Func} {fr : Fr} {H : Heap} {w : World} {G : Nat → Prop} {ρ : Names} {a : Act} (hi : Inv Γ nt w G ρ A a fr H) {r : AVal} (h : resA P fn fr H = some r) :
    ∃ cv, (results fn a.tmps).run P w = .ok cv w ∧ V w G ρ A r cv := by
  unfold resA at h
  cases hvs : resVs P fr H fn.results.toList with
  | none => rw [hvs] at h; cases h
  | some vs =>
    obtain ⟨cs, h1, h2, h3⟩ := resVs_run hi hvs
    have hmap : (fn.results.mapM (loadRes a.tmps)).run P w = .ok cs.toArray w := by
      rw [Array.mapM_eq_mapM_toList, Sem.run_map, h1]; rfl
    have hres : (results fn a.tmps).run P w = .ok (if h : cs.toArray.size = 1 then cs.toArray[0] else .tuple cs.toArray) w := by
      show Sem.run P (do let vs ← fn.results.mapM (loadRes a.tmps); pure (if h : vs.size = 1 then vs[0] else .tuple vs)) w = _
      rw [Sem.run_bind, hmap]; rfl
    refine ⟨_, hres, ?_⟩
    rw [hvs] at h
    match vs, h, h2, h3 with
    | [v], h, h2, h3 =>
      cases h
      match cs, h2, h3 with
      | [c], _, h3 => exact h3 0 _ c rfl rfl
    | [], h, h2, h3 =>
      cases h
      match cs, h2 with
      | [], _ => exact .tup rfl (fun j v hj => by simp at hj)
    | v1 :: v2 :: vr, h, h2, h3 =>
      cases h
      match cs, h2, h3 with
      | c1 :: c2 :: cr, h2, h3 =>
        rw [dif_neg (by simp)]
        refine .tup (by simpa using h2) fun j v hj => ?_
        have hlt := (List.getElem?_eq_some_iff.1 hj).1
        have hlt' : j < (c1 :: c2 :: cr).length := by omega
        have e : (c1 :: c2 :: cr).toArray.getD j undef = (c1 :: c2 :: cr)[j] := by
          rw [Array.getD_eq_getD_getElem?, List.getElem?_toArray, List.getElem?_eq_getElem hlt']; rfl
        rw [e]
        exact h3 j v _ hj (List.getElem?_eq_getElem hlt')
theorem Tr_body {f : FuncId} {fn : Func} {c : Code} {args : List AVal} {H : Heap} {Q : Nat → AVal → Heap → Prop} (hf : P.funcs[f]? = some fn) (hb : fn.body = some c) (hn : args.length ≤ fn.ntmps)
    (h : W P Γ fn.ntmps k c (retQ P fn Q) k (argFr 0 args) H) : Tr P Γ f k args H Q := by
  intro A hA w G ρ cargs hrel hargs
  have hi : Inv Γ fn.ntmps w G ρ (alw A k k) { tmps := cargs ++ Array.replicate (fn.ntmps - cargs.size) undef, defers := [] } (argFr 0 args) H := by
    have hAk : A = alw A k k := funext fun i => by simp only [alw, eq_iff_iff]; constructor; · exact .inl
                                                   · rintro (h | h); · exact h
                                                     · omega
    rw [← hAk]
    refine ⟨hrel, by simp [← hargs.1]; omega, rfl, fun t v hv => ?_⟩
    obtain ⟨_, h2⟩ := argFr_look args 0 t v hv
    simp only [Nat.sub_zero] at h2
    have hlt := (List.getElem?_eq_some_iff.1 h2).1
    have := hargs.2 t v h2
    have e : (cargs ++ Array.replicate (fn.ntmps - cargs.size) undef).getD t undef = cargs.getD t undef := by
      rw [Array.getD_eq_getD_getElem?, Array.getD_eq_getD_getElem?, Array.getElem?_append_left (by rw [← hargs.1]; exact hlt)]
    rw [e]; exact this
  refine calls_of_wp hf hb (wp_mono (h A hA (Nat.le_refl _) w G ρ _ hi) fun e a' w' hp => ?_)
  obtain ⟨G', ρ', k', fr', H', hQ, hk', hi', hst⟩ := hp
  have fin : (∃ r, resA P fn fr' H' = some r ∧ Q k' r H') → a'.defers = [] ∧ ∃ v, (results fn a'.tmps).run P w' = .ok v w' ∧ ∃ cv G' ρ' k' r H', Ending.returned v = .returned cv ∧ Q k' r H' ∧ k ≤ k' ∧ HRel Γ w' G' ρ' (ofHeap H' (alw A k k')) ∧ V w' G' ρ' (alw A k k') r cv ∧ Step (below k) w G ρ w' G' ρ' := by
    rintro ⟨r, hr, hq⟩
    obtain ⟨cv, h1, h2⟩ := resA_run (P := P) (fn := fn) hi' hr
    exact ⟨hi'.defers, cv, h1, cv, G', ρ', k', r, H', rfl, hq, hk', hi'.rel, h2, hst⟩
  cases e with
  | normal => exact fin hQ
  | ret => exact fin hQ
  | exit id => exact hQ.elim
  | goto l => exact hQ.elim
  | panic ch => exact hQ.elim
  | outgrown => exact hQ.elim
end
end Go.AM
end
section
namespace Go.AM
section
variable {P : Program} {Γ : List (Nat × List AVal)} {o : Oper} {ev : Operand → Option AVal} {get : Nat → Option Blk} {k : Nat}
def bound (ev : Operand → Option AVal) (x : Option Operand) (d : Int) : Option Int :=
  match x with
  | none => some d
  | some y => match ev y with
    | some (.lit (.int _ i)) => some i
    | _ => none
theorem run_slice_part {t s : Nat} (ht : esz P t = some s) (lo hi : Option Value) (base : Option Addr) (len cap : Nat) (l h : Int) (hl : lo = none ∧ l = 0 ∨ ∃ kk, lo = some (.int kk l)) (hh : hi = none ∧ h = len ∨ ∃ kk, hi = some (.int kk h))
    (h0 : 0 ≤ l) (h1 : l ≤ h) (h2 : h ≤ len) (h3 : len ≤ cap) (w : World) :
    (Instr.sliceAt t (.slice base len cap) lo hi none).run P w = .ok (.slice (if cap = l.toNat then base else base.map (·.add (l.toNat * s))) (h.toNat - l.toNat) (cap - l.toNat)) w := by
  obtain ⟨e, i, hu, hi', rfl⟩ := esz_spec ht
  have hb : (Instr.sliceBounds true len cap lo hi none).run P w = .ok (l.toNat, h.toNat, cap) w := by
    have q1 : (0 : Int) ≤ h ∧ h ≤ (cap : Int) := ⟨by omega, by omega⟩
    have q3 : (0 : Int) ≤ l ∧ l ≤ (h.toNat : Int) := ⟨h0, by omega⟩
    rcases hl with ⟨rfl, rfl⟩ | ⟨kl, rfl⟩ <;> rcases hh with ⟨rfl, rfl⟩ | ⟨kh, rfl⟩
    · simp [Instr.sliceBounds]
    · simp [Instr.sliceBounds, Instr.sliceBound, asIntOf, q1]
    · have q2 : (0 : Int) ≤ l ∧ l ≤ (len : Int) := ⟨h0, h1⟩
      simp [Instr.sliceBounds, Instr.sliceBound, asIntOf, q2]
    · simp only [Instr.sliceBounds, Instr.sliceBound, asIntOf, Sem.run_bind, Sem.run_pure, Result.andThen_ok, q1, and_self, if_true, q3]
  simp only [Instr.sliceAt, underlying, Sem.run_bind, run_program, Result.andThen_ok, hu, Sem.run_pure, Instr.slice, hb, sizeOf, typeInfo, hi']
theorem bound_spec {x : Option Operand} {d i : Int} (h : bound ev x d = some i) {a : Act} {w : World} {G : Nat → Prop} {ρ : Names} {A : Allow} (hv : ∀ y, x = some y → ∀ v, ev y = some v → V w G ρ A v (a.eval y)) :
    x.map a.eval = none ∧ i = d ∨ ∃ kk, x.map a.eval = some (.int kk i) := by
  cases x with
  | none => cases h; exact .inl ⟨rfl, rfl⟩
  | some y =>
    simp only [bound] at h
    split at h
    · rename_i kk j hy
      cases h
      have := V_bool (hv y rfl _ hy)
      exact .inr ⟨kk, by simp [this]⟩
    · cases h
theorem slice_rd_ok {t s n : Nat} {x : Operand} {lo hi : Option Operand} {f : Nat → List AVal} {l h : Int} (ho : o.op = .slice t x lo hi none) (ht : esz P t = some s) (hx : ev x = some (.rd s n f)) (hl : bound ev lo 0 = some l) (hh : bound ev hi n = some h)
    (h0 : 0 ≤ l) (h1 : l ≤ h) (h2 : h ≤ n) : OpOk P Γ o ev get k ⟨.rd s (h.toNat - l.toNat) (fun i => f (l.toNat + i)), k, [], []⟩ := by
  refine OpOk_quiet fun w G ρ H A a hr _ hop => ?_
  have hvx := hop x (by simp [ho, Op.operands]) _ hx
  have el := bound_spec (w := w) (G := G) (ρ := ρ) (A := A) (a := a) hl (fun y hy v hv => hop y (by simp [ho, Op.operands, hy]) v hv)
  have eh := bound_spec (w := w) (G := G) (ρ := ρ) (A := A) (a := a) hh (fun y hy v hv => hop y (by simp [ho, Op.operands, hy]) v hv)
  generalize hev : a.eval x = cv at hvx
  cases hvx with
  | rd0 =>
    rename_i base cap
    have hrun := run_slice_part ht (lo.map a.eval) (hi.map a.eval) base 0 cap l h el eh h0 h1 (by omega) (by omega) w
    have e0 : h.toNat - l.toNat = 0 := by omega
    refine ⟨_, by simp only [execOp, ho, hev, Option.map_none, Sem.run_bind, hrun, Result.andThen_ok, Sem.run_pure]; rfl, ?_⟩
    rw [e0]; exact .rd0
  | rd g hb hcap hn hlen hc hv =>
    rename_i b off cap
    have hrun := run_slice_part ht (lo.map a.eval) (hi.map a.eval) (some ⟨b, off, none⟩) n cap l h el eh h0 h1 h2 hcap w
    refine ⟨_, by simp only [execOp, ho, hev, Option.map_none, Sem.run_bind, hrun, Result.andThen_ok, Sem.run_pure]; rfl, ?_⟩
    by_cases hcl : cap = l.toNat
    · have e0 : h.toNat - l.toNat = 0 := by omega
      rw [e0]; exact .rd0
    · rw [if_neg hcl, Option.map_some, Addr.add_mid]
      refine .rd (fun i j => g (l.toNat + i) j) hb (by omega) (by omega) (fun i hi' => hlen _ (by omega)) (fun i j v hi' hj => ?_) (fun i j v hi' hj => hv _ j v (by omega) hj)
      have := hc (l.toNat + i) j v (by omega) hj
      rw [← this]
      congr 2
      rw [Nat.add_mul]; omega
theorem slice_sl_ok {t s n id r : Nat} {x : Operand} {lo hi : Option Operand} {B : Blk} {l h : Int} (ho : o.op = .slice t x lo hi none) (ht : esz P t = some s) (hx : ev x = some (.sl id r n)) (hB : get id = some B) (hs : B.sz = s)
    (hl : bound ev lo 0 = some l) (hh : bound ev hi n = some h) (h0 : 0 ≤ l) (h1 : l ≤ h) (h2 : h ≤ n) : OpOk P Γ o ev get k ⟨.sl id (r + l.toNat) (h.toNat - l.toNat), k, [], [id]⟩ := by
  refine OpOk_quiet fun w G ρ H A a hr hrd hop => ?_
  have hvx := hop x (by simp [ho, Op.operands]) _ hx
  have el := bound_spec (w := w) (G := G) (ρ := ρ) (A := A) (a := a) hl (fun y hy v hv => hop y (by simp [ho, Op.operands, hy]) v hv)
  have eh := bound_spec (w := w) (G := G) (ρ := ρ) (A := A) (a := a) hh (fun y hy v hv => hop y (by simp [ho, Op.operands, hy]) v hv)
  obtain ⟨B', A', h3, hH, _⟩ := hrd id (by simp)
  rw [hB] at h3; cases h3
  obtain ⟨_, b, hb, _⟩ := hr.blk id B A' hH
  generalize hev : a.eval x = cv at hvx
  cases hvx with
  | dangs _ hn => rw [hb] at hn; cases hn
  | sl0 ha hρ =>
    have hrun := run_slice_part ht (lo.map a.eval) (hi.map a.eval) none 0 0 l h el eh h0 h1 h2 (Nat.le_refl _) w
    have e1 : l.toNat = 0 := by omega
    have e2 : h.toNat = 0 := by omega
    refine ⟨_, by simp only [execOp, ho, hev, Option.map_none, Sem.run_bind, hrun, Result.andThen_ok, Sem.run_pure]; rfl, ?_⟩
    rw [e1, e2]
    exact .sl0 ha hρ
  | sl ha hρ hsh hm hn hc hoff =>
    rw [hb] at hρ; cases hρ
    rename_i ty m cap off
    have hrun := run_slice_part ht (lo.map a.eval) (hi.map a.eval) (some ⟨b, off, none⟩) n cap l h el eh h0 h1 h2 hn w
    refine ⟨_, by simp only [execOp, ho, hev, Option.map_none, Sem.run_bind, hrun, Result.andThen_ok, Sem.run_pure]; rfl, ?_⟩
    have hm' : (r + l.toNat + (cap - l.toNat)) * B.sz ≤ m := by
      have : r + l.toNat + (cap - l.toNat) = r + cap := by omega
      rw [this]; exact hm
    by_cases hcl : cap = l.toNat
    · rw [if_pos hcl]
      exact .sl ha hb hsh hm' (by omega) (by omega) (.inl (by omega))
    · rw [if_neg hcl, Option.map_some, Addr.add_mid]
      refine .sl ha hb hsh hm' (by omega) (by omega) (.inr ?_)
      rcases hoff with h4 | h4
      · omega
      · rw [h4, ← hs, Nat.add_mul]
def notNil (get : Nat → Option Blk) : AVal → Bool
  | .ptr id _ _ => (get id).isSome
  | .rp _ => true
  | .sl id _ n => (get id).isSome && decide (0 < n)
  | .rd _ n _ => decide (0 < n)
  | .fn _ _ => true
  | .nn => true
  | _ => false
def nilLike : AVal → Bool
  | .lit (.pointer none) => true
  | .lit (.slice none _ _) => true
  | .lit .nilFunc => true
  | .lit .nilIface => true
  | _ => false
def refT (P : Program) (t : TypeId) : Option Nat :=
  match P.underlying t with
  | some (.pointer _) => some 0
  | some (.slice _) => some 1
  | some (.func ..) => some 2
  | some (.interface _) => some 4
  | _ => none
def kindOf : AVal → Nat
  | .ptr .. => 0
  | .rp _ => 0
  | .lit (.pointer _) => 0
  | .sl .. => 1
  | .rd .. => 1
  | .lit (.slice ..) => 1
  | .fn .. => 2
  | .lit .nilFunc => 2
  | .nn => 4
  | .lit .nilIface => 4
  | _ => 3
def rdsOf : AVal → List Nat
  | .ptr id _ _ => [id]
  | .sl id _ _ => [id]
  | _ => []
theorem equalIn_ptr {t e : Nat} (he : P.underlying t = some (.pointer e)) (d : Nat) (p : Addr) (w : World) : (Op.equalIn (d + 1) t (.pointer (some p)) (.pointer none)).run P w = .ok false w ∧ (Op.equalIn (d + 1) t (.pointer none) (.pointer (some p))).run P w = .ok false w := by
  constructor <;> simp [Op.equalIn, run_underlying he]
theorem equalIn_ptr0 {t e : Nat} (he : P.underlying t = some (.pointer e)) (d : Nat) (w : World) : (Op.equalIn (d + 1) t (.pointer none) (.pointer none)).run P w = .ok true w := by
  simp [Op.equalIn, run_underlying he]
theorem equalIn_sl0 {t e : Nat} (he : P.underlying t = some (.slice e)) (d : Nat) (m c m' c' : Nat) (w : World) : (Op.equalIn (d + 1) t (.slice none m c) (.slice none m' c')).run P w = .ok true w := by
  simp [Op.equalIn, run_underlying he]
theorem equalIn_sl {t e : Nat} (he : P.underlying t = some (.slice e)) (d : Nat) (p : Addr) (m c m' c' : Nat) (w : World) : (Op.equalIn (d + 1) t (.slice (some p) m c) (.slice none m' c')).run P w = .ok false w ∧ (Op.equalIn (d + 1) t (.slice none m' c') (.slice (some p) m c)).run P w = .ok false w := by
  constructor <;> simp [Op.equalIn, run_underlying he]
theorem equalIn_fn {t : Nat} {ps rs : Array TypeId} {vr : Bool} (he : P.underlying t = some (.func ps rs vr)) (d : Nat) (fn : Fn) (fi cc : Array Value) (w : World) : (Op.equalIn (d + 1) t (.func fn fi cc) .nilFunc).run P w = .ok false w ∧ (Op.equalIn (d + 1) t .nilFunc (.func fn fi cc)).run P w = .ok false w := by
  constructor <;> simp [Op.equalIn, run_underlying he]
theorem equalIn_if {t : Nat} {ms : Array (String × TypeId)} (he : P.underlying t = some (.interface ms)) (d : Nat) (tt : TypeId) (v : Value) (w : World) : (Op.equalIn (d + 1) t (.iface tt v) .nilIface).run P w = .ok false w ∧ (Op.equalIn (d + 1) t .nilIface (.iface tt v)).run P w = .ok false w := by
  constructor <;> simp [Op.equalIn, run_underlying he]
theorem eqGuard_idle {t : Nat} {x y : Value} (h1 : ¬ (x = .nilIface ∧ y = .nilIface)) (h2 : ∀ a b, ¬ (x = .agg a ∧ y = .agg b)) (op : BinOp) (p q : Operand) (w : World) : (eqGuard op t p q x y).run P w = .ok () w := by
  unfold eqGuard
  cases op <;> first | rfl | (cases x <;> cases y <;> first | rfl | exact absurd ⟨rfl, rfl⟩ h1 | exact absurd ⟨rfl, rfl⟩ (h2 _ _))
def NilEq (P : Program) (w : World) (t : TypeId) (cv cz : Value) : Prop :=
  (∀ op x y, (eqGuard op t x y cv cz).run P w = .ok () w) ∧ (∀ op x y, (eqGuard op t x y cz cv).run P w = .ok () w) ∧
      (binOp .eql t cv cz).run P w = .ok (.bool false) w ∧ (binOp .neq t cv cz).run P w = .ok (.bool true) w ∧ (binOp .eql t cz cv).run P w = .ok (.bool false) w ∧ (binOp .neq t cz cv).run P w = .ok (.bool true) w
theorem eql_of {t : Nat} {x y : Value} {w : World} {b : Bool} (hp : (∀ k n, x ≠ .int k n) ∧ (∀ k n, y ≠ .int k n) ∧ (∀ s, x ≠ .string s) ∧ (∀ k n, x ≠ .float k n) ∧ (∀ k n m, x ≠ .complex k n m)) (h : (Op.equal t x y).run P w = .ok b w) :
    (binOp .eql t x y).run P w = .ok (.bool b) w ∧ (binOp .neq t x y).run P w = .ok (.bool (!b)) w := by
  obtain ⟨h1, h2, h3, h4, h5⟩ := hp
  constructor
  · cases x <;> first | exact absurd rfl (h1 _ _) | exact absurd rfl (h3 _) | exact absurd rfl (h4 _ _) | exact absurd rfl (h5 _ _ _) | simp [binOp, h]
  · cases x <;> first | exact absurd rfl (h1 _ _) | exact absurd rfl (h3 _) | exact absurd rfl (h4 _ _) | exact absurd rfl (h5 _ _ _) | simp [binOp, h]
theorem nilEq_ptr {t e : Nat} (he : P.underlying t = some (.pointer e)) (p : Addr) (w : World) : NilEq P w t (.pointer (some p)) (.pointer none) := by
  have h := equalIn_ptr he 9999 p w
  have e1 := eql_of (P := P) (x := .pointer (some p)) (y := .pointer none) (w := w) (t := t) (by simp) h.1
  have e2 := eql_of (P := P) (x := .pointer none) (y := .pointer (some p)) (w := w) (t := t) (by simp) h.2
  exact ⟨fun op x y => eqGuard_idle (by simp) (by simp) op x y w, fun op x y => eqGuard_idle (by simp) (by simp) op x y w, e1.1, e1.2, e2.1, e2.2⟩
theorem nilEq_sl {t e : Nat} (he : P.underlying t = some (.slice e)) (p : Addr) (m c m' c' : Nat) (w : World) : NilEq P w t (.slice (some p) m c) (.slice none m' c') := by
  have h := equalIn_sl he 9999 p m c m' c' w
  have e1 := eql_of (P := P) (x := .slice (some p) m c) (y := .slice none m' c') (w := w) (t := t) (by simp) h.1
  have e2 := eql_of (P := P) (x := .slice none m' c') (y := .slice (some p) m c) (w := w) (t := t) (by simp) h.2
  exact ⟨fun op x y => eqGuard_idle (by simp) (by simp) op x y w, fun op x y => eqGuard_idle (by simp) (by simp) op x y w, e1.1, e1.2, e2.1, e2.2⟩
theorem nilEq_fn {t : Nat} {ps rs : Array TypeId} {vr : Bool} (he : P.underlying t = some (.func ps rs vr)) (fn : Fn) (fi cc : Array Value) (w : World) : NilEq P w t (.func fn fi cc) .nilFunc := by
  have h := equalIn_fn he 9999 fn fi cc w
  have e1 := eql_of (P := P) (x := .func fn fi cc) (y := .nilFunc) (w := w) (t := t) (by simp) h.1
  have e2 := eql_of (P := P) (x := .nilFunc) (y := .func fn fi cc) (w := w) (t := t) (by simp) h.2
  exact ⟨fun op x y => eqGuard_idle (by simp) (by simp) op x y w, fun op x y => eqGuard_idle (by simp) (by simp) op x y w, e1.1, e1.2, e2.1, e2.2⟩
theorem nilEq_if {t : Nat} {ms : Array (String × TypeId)} (he : P.underlying t = some (.interface ms)) (tt : TypeId) (v : Value) (w : World) : NilEq P w t (.iface tt v) .nilIface := by
  have h := equalIn_if he 9999 tt v w
  have e1 := eql_of (P := P) (x := .iface tt v) (y := .nilIface) (w := w) (t := t) (by simp) h.1
  have e2 := eql_of (P := P) (x := .nilIface) (y := .iface tt v) (w := w) (t := t) (by simp) h.2
  exact ⟨fun op x y => eqGuard_idle (by simp) (by simp) op x y w, fun op x y => eqGuard_idle (by simp) (by simp) op x y w, e1.1, e1.2, e2.1, e2.2⟩
theorem eqnil_run {t kd : Nat} (ht : refT P t = some kd) {v z : AVal} {w : World} {G : Nat → Prop} {ρ : Names} {A : Allow} {H : Owner} (hr : HRel Γ w G ρ H) (hrd : ∀ id, id ∈ rdsOf v → ∃ B A', get id = some B ∧ H id = some (B, A') ∧ ∀ i, A' i → A i)
    {cv cz : Value} (hv : V w G ρ A v cv) (hz : V w G ρ A z cz) (hn : notNil get v = true) (hzz : nilLike z = true) (hk1 : kindOf v = kd) (hk2 : kindOf z = kd) : NilEq P w t cv cz := by
  have hlit : z = .lit cz := by
    cases z with
    | lit u => cases hz; rfl
    | _ => simp [nilLike] at hzz
  subst hlit
  clear hz
  have hown : ∀ id, id ∈ rdsOf v → ρ id ≠ none := fun id hid hn' => by
    obtain ⟨B, A', _, hH, _⟩ := hrd id hid
    obtain ⟨_, b, hb, _⟩ := hr.blk _ B A' hH
    rw [hb] at hn'; cases hn'
  unfold refT at ht
  split at ht
  · rename_i e he
    cases ht
    have hcz : cz = .pointer none := by
      cases cz with
      | pointer a => cases a with
        | none => rfl
        | some => simp [nilLike] at hzz
      | slice a m c => simp [kindOf] at hk2
      | nilFunc => simp [kindOf] at hk2
      | nilIface => simp [kindOf] at hk2
      | _ => simp [nilLike] at hzz
    subst hcz
    cases hv with
    | dang _ hn' => exact absurd hn' (hown _ (by simp [rdsOf]))
    | ptr => exact nilEq_ptr he _ w
    | rp => exact nilEq_ptr he _ w
    | junk => simp [notNil] at hn
    | lit => simp [notNil] at hn
    | agg => simp [notNil] at hn
    | tup => simp [notNil] at hn
    | dangs => simp [kindOf] at hk1
    | sl => simp [kindOf] at hk1
    | sl0 => simp [kindOf] at hk1
    | rd0 => simp [kindOf] at hk1
    | rd => simp [kindOf] at hk1
    | fn => simp [kindOf] at hk1
    | nn => simp [kindOf] at hk1
    | dangc => simp [notNil] at hn
    | slc => simp [notNil] at hn
    | bfn => simp [notNil] at hn
  · rename_i e he
    cases ht
    obtain ⟨m, c, hcz⟩ : ∃ m c, cz = .slice none m c := by
      cases cz with
      | slice a m c => cases a with
        | none => exact ⟨m, c, rfl⟩
        | some => simp [nilLike] at hzz
      | pointer a => simp [kindOf] at hk2
      | nilFunc => simp [kindOf] at hk2
      | nilIface => simp [kindOf] at hk2
      | _ => simp [nilLike] at hzz
    subst hcz
    cases hv with
    | dangs _ hn' => exact absurd hn' (hown _ (by simp [rdsOf]))
    | sl => exact nilEq_sl he _ _ _ _ _ w
    | sl0 => simp [notNil] at hn
    | rd => exact nilEq_sl he _ _ _ _ _ w
    | rd0 => simp [notNil] at hn
    | junk => simp [notNil] at hn
    | lit => simp [notNil] at hn
    | agg => simp [notNil] at hn
    | tup => simp [notNil] at hn
    | dang => simp [kindOf] at hk1
    | ptr => simp [kindOf] at hk1
    | rp => simp [kindOf] at hk1
    | fn => simp [kindOf] at hk1
    | nn => simp [kindOf] at hk1
    | dangc => simp [notNil] at hn
    | slc => simp [notNil] at hn
    | bfn => simp [notNil] at hn
  · rename_i ps rs vr he
    cases ht
    have hcz : cz = .nilFunc := by
      cases cz with
      | nilFunc => rfl
      | pointer a => simp [kindOf] at hk2
      | slice a m c => simp [kindOf] at hk2
      | nilIface => simp [kindOf] at hk2
      | _ => simp [nilLike] at hzz
    subst hcz
    cases hv with
    | fn => exact nilEq_fn he _ _ _ w
    | nn => simp [kindOf] at hk1
    | dangc => simp [notNil] at hn
    | slc => simp [notNil] at hn
    | bfn => simp [notNil] at hn
    | junk => simp [notNil] at hn
    | lit => simp [notNil] at hn
    | agg => simp [notNil] at hn
    | tup => simp [notNil] at hn
    | dang => simp [kindOf] at hk1
    | dangs => simp [kindOf] at hk1
    | ptr => simp [kindOf] at hk1
    | sl => simp [kindOf] at hk1
    | sl0 => simp [kindOf] at hk1
    | rp => simp [kindOf] at hk1
    | rd0 => simp [kindOf] at hk1
    | rd => simp [kindOf] at hk1
  · rename_i ms he
    cases ht
    have hcz : cz = .nilIface := by
      cases cz with
      | nilIface => rfl
      | nilFunc => simp [kindOf] at hk2
      | pointer a => simp [kindOf] at hk2
      | slice a m c => simp [kindOf] at hk2
      | _ => simp [nilLike] at hzz
    subst hcz
    cases hv with
    | nn => exact nilEq_if he _ _ w
    | dangc => simp [notNil] at hn
    | slc => simp [notNil] at hn
    | bfn => simp [notNil] at hn
    | fn => simp [kindOf] at hk1
    | junk => simp [notNil] at hn
    | lit => simp [notNil] at hn
    | agg => simp [notNil] at hn
    | tup => simp [notNil] at hn
    | dang => simp [kindOf] at hk1
    | dangs => simp [kindOf] at hk1
    | ptr => simp [kindOf] at hk1
    | sl => simp [kindOf] at hk1
    | sl0 => simp [kindOf] at hk1
    | rp => simp [kindOf] at hk1
    | rd0 => simp [kindOf] at hk1
    | rd => simp [kindOf] at hk1
  · cases ht
theorem eqnil_ok {t ty kd : Nat} {x y : Operand} {v z : AVal} {neg : Bool} (ho : o.op = .binOp (if neg then .neq else .eql) t x y ty) (ht : refT P t = some kd) (hxy : (ev x = some v ∧ ev y = some z) ∨ (ev x = some z ∧ ev y = some v))
    (hn : notNil get v = true) (hzz : nilLike z = true) (hk1 : kindOf v = kd) (hk2 : kindOf z = kd) : OpOk P Γ o ev get k ⟨.lit (.bool neg), k, [], rdsOf v⟩ := by
  refine OpOk_quiet fun w G ρ H A a hr hrd hop => ⟨.bool neg, ?_, .lit⟩
  have hmx : x ∈ o.op.operands := by cases neg <;> simp [ho, Op.operands]
  have hmy : y ∈ o.op.operands := by cases neg <;> simp [ho, Op.operands]
  rcases hxy with ⟨hx, hy⟩ | ⟨hx, hy⟩
  · obtain ⟨h3, _, h5, h6, _, _⟩ := eqnil_run (P := P) ht hr hrd (hop x hmx v hx) (hop y hmy z hy) hn hzz hk1 hk2
    cases neg <;> simp [execOp, ho, h3, h5, h6]
  · obtain ⟨_, h4, _, _, h7, h8⟩ := eqnil_run (P := P) ht hr hrd (hop y hmy v hy) (hop x hmx z hx) hn hzz hk1 hk2
    cases neg <;> simp [execOp, ho, h4, h7, h8]
def tagOf (P : Program) (t : TypeId) : Option Nat :=
  match P.underlying t with
  | some (.int _) => some 0
  | some .bool => some 1
  | some .string => some 2
  | _ => none
def eqOffs (P : Program) (t : TypeId) : Option (List (Nat × Nat)) :=
  match P.underlying t with
  | some (.struct fs) => if P.stoodInHeld t || P.eqGuardType P.depth t || fs.any (·.name == "_") then none else fs.toList.mapM fun f => (tagOf P f.type).map fun g => (f.offset, g)
  | _ => none
def eqLit : Nat → Value → Value → Option Bool
  | 0, .int k a, .int k' b => if k = k' then some (a == b) else none
  | 1, .bool a, .bool b => some (a == b)
  | 2, .string a, .string b => some (a == b)
  | _, _, _ => none
def eqCells (xs ys : List Value) : List (Nat × Nat) → Option Bool
  | [] => some true
  | (off, g) :: r => match xs[off]?, ys[off]? with
    | some a, some b => match eqLit g a b, eqCells xs ys r with
      | some p, some q => some (p && q)
      | _, _ => none
    | _, _ => none
theorem eqLit_run {t g d : Nat} (ht : tagOf P t = some g) {a b : Value} {p : Bool} (h : eqLit g a b = some p) (w : World) : (Op.equalIn (d + 1) t a b).run P w = .ok p w := by
  unfold tagOf at ht
  split at ht
  · rename_i kk hu
    cases ht
    cases a <;> cases b <;> simp [eqLit] at h
    obtain ⟨rfl, rfl⟩ := h
    simp [Op.equalIn, run_underlying hu]
  · rename_i hu
    cases ht
    cases a <;> cases b <;> simp [eqLit] at h
    subst h
    simp [Op.equalIn, run_underlying hu]
  · rename_i hu
    cases ht
    cases a <;> cases b <;> simp [eqLit] at h
    subst h
    simp [Op.equalIn, run_underlying hu]
  · cases ht
theorem tag_part {t g : Nat} (ht : tagOf P t = some g) {cs : Array Value} {off : Nat} {u : Value} (h : cs[off]? = some u) (w : World) : (part t cs off).run P w = .ok u w := by
  have : ∃ d, P.underlying t = some d ∧ d.isRow = false := by
    unfold tagOf at ht
    split at ht
    · exact ⟨_, ‹_›, rfl⟩
    · exact ⟨_, ‹_›, rfl⟩
    · exact ⟨_, ‹_›, rfl⟩
    · cases ht
  obtain ⟨d, hd, hdr⟩ := this
  have hagg : (isAgg t).run P w = .ok false w := by
    unfold isAgg
    rw [Sem.run_bind, run_underlying hd w]
    cases d <;> simp_all
  simp [part, hagg, h]
theorem eqFields_run {d : Nat} (xs ys : List Value) : ∀ (fs : List Field) (offs : List (Nat × Nat)) (p : Bool), (∀ f ∈ fs, f.name ≠ "_") → (fs.mapM fun f => (tagOf P f.type).map fun g => (f.offset, g)) = some offs → eqCells xs ys offs = some p →
    ∀ w, (Op.eqFields (d + 1) xs.toArray ys.toArray fs).run P w = .ok p w := by
  intro fs
  induction fs with
  | nil =>
    intro offs p _ hm he w
    simp at hm; subst hm
    simp [eqCells] at he; subst he
    simp [Op.eqFields]
  | cons f fs ih =>
    intro offs p hn hm he w
    rw [List.mapM_cons] at hm
    simp only [Option.bind_eq_bind, Option.bind_eq_some_iff, Option.map_eq_some_iff] at hm
    obtain ⟨x, ⟨g, hg, rfl⟩, offs', hm', hp⟩ := hm
    cases hp
    simp only [eqCells] at he
    split at he
    · rename_i a b ha hb
      split at he
      · rename_i p1 q1 h1 h2
        cases he
        have r1 := tag_part hg (cs := xs.toArray) (by rw [List.getElem?_toArray]; exact ha) w
        have r2 := tag_part hg (cs := ys.toArray) (by rw [List.getElem?_toArray]; exact hb) w
        have r3 := eqLit_run (d := d) hg h1 w
        have r4 := ih offs' q1 (fun f hf => hn f (List.mem_cons_of_mem _ hf)) hm' h2 w
        simp only [Op.eqFields, if_pos (hn f (by simp)), Sem.run_bind, r1, r2, r3, Result.andThen_ok]
        cases p1 <;> simp [r4]
      · cases he
    · cases he
theorem eqagg_ok {t ty : Nat} {x y : Operand} {xc yc : List AVal} {xs ys : List Value} {offs : List (Nat × Nat)} {p neg : Bool} (ho : o.op = .binOp (if neg then .neq else .eql) t x y ty) (ht : eqOffs P t = some offs)
    (hx : ev x = some (.agg xc)) (hy : ev y = some (.agg yc)) (hxs : litsOf xc = some xs) (hys : litsOf yc = some ys) (he : eqCells xs ys offs = some p) : OpOk P Γ o ev get k ⟨.lit (.bool (if neg then !p else p)), k, [], []⟩ := by
  refine OpOk_quiet fun w G ρ H A a hr hrd hop => ⟨.bool (if neg then !p else p), ?_, .lit⟩
  have hmx : x ∈ o.op.operands := by cases neg <;> simp [ho, Op.operands]
  have hmy : y ∈ o.op.operands := by cases neg <;> simp [ho, Op.operands]
  have ex : a.eval x = .agg xs.toArray := toVal_V (hop x hmx _ hx) (by simp [toVal, hxs])
  have ey : a.eval y = .agg ys.toArray := toVal_V (hop y hmy _ hy) (by simp [toVal, hys])
  unfold eqOffs at ht
  split at ht
  · rename_i fs hu
    split at ht
    · cases ht
    · rename_i hc
      simp only [Bool.or_eq_true, not_or, Bool.not_eq_true] at hc
      obtain ⟨⟨h1, h2⟩, h3⟩ := hc
      have hfs : P.fieldsOf t = fs := by simp [Program.fieldsOf, hu]
      have hnm : ∀ f ∈ fs.toList, f.name ≠ "_" := fun f hf he => by
        have := Array.any_eq_false'.1 h3 f (by simpa using hf)
        simp [he] at this
      have hrun := eqFields_run (P := P) (d := 9998) xs ys fs.toList offs p hnm ht he w
      have hstr := run_equalIn_struct (P := P) w 9999 t xs.toArray ys.toArray (by rw [hfs]; exact hu) h1
      rw [hfs, hrun] at hstr
      have hg := fun op => run_eqGuard_agg (P := P) w op t x y xs.toArray ys.toArray h2
      cases neg
      · simp only [execOp, ho, ex, ey, Bool.false_eq_true, if_false, Sem.run_bind, hg, Result.andThen_ok, run_eql_struct, hstr, Sem.run_pure]
      · simp only [execOp, ho, ex, ey, if_true, Sem.run_bind, hg, Result.andThen_ok, run_neq_struct, hstr, Sem.run_pure]
  · cases ht
theorem one_row_one {rows : List (List AVal)} (h : (rows.all fun row => row.all one) = true) : rowsOne rows := fun _ _ _ _ h1 h2 => all_get (all_get h h1) h2
inductive SrcA (get : Nat → Option Blk) : AVal → Nat → Nat → List (List AVal) → Bool → List Nat → Prop
  | rd {s m f} : SrcA get (.rd s m f) s m ((List.range m).map f) true []
  | sl {id r m B} : get id = some B → r + m ≤ B.rows.length → SrcA get (.sl id r m) B.sz m ((B.rows.drop r).take m) B.pure [id]
  | nil : SrcA get (.lit (.slice none 0 0)) 0 0 [] true []
theorem SrcA.src {v : AVal} {s m : Nat} {rows : List (List AVal)} {p : Bool} {ids : List Nat} (h : SrcA get v s m rows p ids) {w : World} {G : Nat → Prop} {ρ : Names} {H : Owner} {A : Allow} {cv : Value} (hr : HRel Γ w G ρ H)
    (hrd : ∀ id, id ∈ ids → ∃ B A', get id = some B ∧ H id = some (B, A') ∧ ∀ i, A' i → A i) (hv : V w G ρ A v cv) : Src w G ρ A s m rows p cv := by
  cases h with
  | nil => exact ⟨rfl, fun r row h => by simp at h, fun h => by omega⟩
  | rd =>
    rename_i f
    cases hv with
    | rd0 => exact ⟨by simp, fun r row h => by simp at h, fun h => by omega⟩
    | rd g hb hcap hn hl hc hvv =>
      have hget : ∀ (r : Nat) row, ((List.range m).map f)[r]? = some row → r < m ∧ row = f r := fun r row h => by
        rw [List.getElem?_map] at h
        simp only [Option.map_eq_some_iff] at h
        obtain ⟨i, hi, rfl⟩ := h
        obtain ⟨hlt, he⟩ := List.getElem?_eq_some_iff.1 hi
        simp at he hlt
        subst he
        exact ⟨hlt, rfl⟩
      refine ⟨by simp, fun r row h => ?_, fun _ => ⟨_, _, _, rfl, g, fun r row c v h1 h2 => ?_⟩⟩
      · obtain ⟨h1, rfl⟩ := hget r row h; exact hl r h1
      · obtain ⟨h3, rfl⟩ := hget r row h1
        exact ⟨hc r c v h3 h2, by simp only [if_true]; exact hvv r c v h3 h2⟩
  | sl hB hle =>
    rename_i id r B
    obtain ⟨B', A', h1, hH, hAA⟩ := hrd id (by simp)
    rw [hB] at h1; cases h1
    obtain ⟨_, b, hb, _, ⟨⟨C, ty, hC, hrows⟩, hlen⟩⟩ := hr.blk id B A' hH
    have hget : ∀ (q : Nat) row, ((B.rows.drop r).take m)[q]? = some row → B.rows[r + q]? = some row := fun q row h => by
      rw [List.getElem?_take] at h
      split at h
      · rw [List.getElem?_drop] at h; exact h
      · cases h
    cases hv with
    | dangs _ hn => rw [hb] at hn; cases hn
    | sl0 => exact ⟨by simp, fun q row h => hlen _ row (hget q row h), fun hm0 => absurd hm0 (Nat.lt_irrefl _)⟩
    | sl ha hρ hsh hm hn hc hoff =>
      rw [hb] at hρ; cases hρ
      refine ⟨by simp; omega, fun q row h => hlen _ row (hget q row h), fun hm0 => ⟨_, _, _, rfl, fun q c => C.getD ((r + q) * B.sz + c) undef, fun q row c v h1 h2 => ?_⟩⟩
      have hoff' := hoff.resolve_left (by omega)
      subst hoff'
      obtain ⟨cu, h3, h4⟩ := hrows _ row c v (hget q row h1) h2
      have e : C.getD ((r + q) * B.sz + c) undef = cu := by rw [Array.getD_eq_getD_getElem?, h3]; rfl
      show w.cell? ⟨b, r * B.sz + q * B.sz + c, none⟩ = some (C.getD ((r + q) * B.sz + c) undef) ∧ V w G (if B.pure then noNames else ρ) (if B.pure then noAllow else A) v (C.getD ((r + q) * B.sz + c) undef)
      rw [e]
      refine ⟨?_, ?_⟩
      · rw [cell_of_row w b _ C ty (0, 0) hC, ← h3]
        congr 1
        rw [Nat.add_mul]
      · by_cases hp : B.pure = true
        · simp only [hp, if_true] at h4 ⊢; exact h4
        · simp only [hp] at h4 ⊢; exact h4.mono (fun _ h => h) (fun _ _ => rfl) (fun _ _ => rfl) hAA (fun _ _ => .inr rfl)
theorem run_append0 (w : World) (t ty e : TypeId) (i : TypeInfo) (ht : P.underlying t = some (.slice e)) (hi : P.info? e = some i) (base q : Option Addr) (n cap c : Nat) (h : n ≤ cap) :
    (Builtin.append_ #[t, t] ty #[.slice base n cap, .slice q 0 c]).run P w = .ok (.slice base n cap) w := by
  cases base <;> cases q <;> simp [Builtin.append_, run_underlying ht, sizeOf, typeInfo, hi, Builtin.lenOf, h, Builtin.firstCells, loadCells, loadCellsFrom, storeCells]
theorem append0_ok {t s s' by' : Nat} {x y : Operand} {u v : AVal} {zrow : List AVal} {rows : List (List AVal)} {p : Bool} {ids idx : List Nat} (ho : o.op = .call { callee := .builtin .append, args := #[x, y], argTypes := #[t, t] }) (hz : ezero P t = some (s, by', zrow))
    (hx : ev x = some u) (hy : ev y = some v) (hu : (u = .lit (.slice none 0 0) ∧ idx = []) ∨ (∃ s1 n f, u = .rd s1 n f ∧ idx = []) ∨ (∃ id r n, u = .sl id r n ∧ idx = [id] ∧ (get id).isSome = true)) (hs : SrcA get v s' 0 rows p ids) :
    OpOk P Γ o ev get k ⟨u, k, [], idx ++ ids⟩ := by
  refine OpOk_quiet fun w G ρ H A a hr hrd hop => ?_
  have hvx := hop x (by simp [ho, Op.operands, Call.operands]) _ hx
  have hvy := hop y (by simp [ho, Op.operands, Call.operands]) _ hy
  have hxs : ∃ base n cap, a.eval x = .slice base n cap ∧ n ≤ cap := by
    generalize a.eval x = cv at hvx
    rcases hu with ⟨rfl, _⟩ | ⟨s1, n, f, rfl, _⟩ | ⟨id, r, n, rfl, he, hg⟩
    · cases hvx; exact ⟨_, _, _, rfl, Nat.le_refl _⟩
    · cases hvx with
      | rd0 => exact ⟨_, _, _, rfl, Nat.zero_le _⟩
      | rd _ _ hcap => exact ⟨_, _, _, rfl, hcap⟩
    · obtain ⟨B', A', h2, hH, _⟩ := hrd id (by simp [he])
      obtain ⟨_, b, hb, _⟩ := hr.blk id B' A' hH
      cases hvx with
      | dangs _ hn => rw [hb] at hn; cases hn
      | sl _ _ _ _ h5 => exact ⟨_, _, _, rfl, h5⟩
      | sl0 => exact ⟨_, _, _, rfl, Nat.le_refl _⟩
  have hys : ∃ q c, a.eval y = .slice q 0 c := by
    generalize a.eval y = cv at hvy
    cases hs with
    | nil => cases hvy; exact ⟨_, _, rfl⟩
    | rd => cases hvy with
      | rd0 => exact ⟨_, _, rfl⟩
      | rd => exact ⟨_, _, rfl⟩
    | sl hB hle =>
      rename_i id r B
      obtain ⟨B', A', h2, hH, _⟩ := hrd id (by simp)
      obtain ⟨_, b, hb, _⟩ := hr.blk id B' A' hH
      cases hvy with
      | dangs _ hn => rw [hb] at hn; cases hn
      | sl => exact ⟨_, _, rfl⟩
      | sl0 => exact ⟨_, _, rfl⟩
  obtain ⟨base, n, cap, ex, hcap⟩ := hxs
  obtain ⟨q, c, ey⟩ := hys
  unfold ezero at hz
  split at hz
  · rename_i e he
    split at hz
    · rename_i i hi
      rw [ex] at hvx
      refine ⟨.slice base n cap, ?_, hvx⟩
      have := run_append0 (P := P) w t o.type e i he hi base q n cap c hcap
      simp only [execOp, ho, resolve, invoke, builtin, List.map_toArray, List.map_cons, List.map_nil, ex, ey, Sem.run_bind, Sem.run_pure, Result.andThen_ok, this]
    · cases hz
  · cases hz
theorem append_nil_ok {t s by' m : Nat} {x y : Operand} {v : AVal} {zrow : List AVal} {rows : List (List AVal)} {p : Bool} {ids : List Nat} (ho : o.op = .call { callee := .builtin .append, args := #[x, y], argTypes := #[t, t] }) (hz : ezero P t = some (s, by', zrow))
    (hx : ev x = some (.lit (.slice none 0 0))) (hy : ev y = some v) (hs : SrcA get v s m rows p ids) (hm : 0 < m) (hlen : m ≤ 9223372036854775807) (hby : m * by' ≤ 140737488355328) (hone : (rows.all fun row => row.all one) = true) :
    OpOk P Γ o ev get k ⟨.sl k 0 m, k + 1, [(k, some ⟨s, p, rows⟩)], ids⟩ := by
  have := append_core (P := P) (Γ := Γ) (o := o) (ev := ev) (get := get) (k := k) (n := 0) (olds := []) (pd := true) (idd := none) (rds := ids) ho hz hm (by omega) (by rw [Nat.zero_add]; exact hby) (one_row_one hone) (fun id h => by cases h)
    (fun w G ρ H A a hr hrd hop => .inl ⟨rfl, rfl, rfl, V_bool (hop x (by simp [ho, Op.operands, Call.operands]) _ hx)⟩) (fun w G ρ H A a hr hrd hop => hs.src hr hrd (hop y (by simp [ho, Op.operands, Call.operands]) _ hy))
  simpa using this
theorem append_sl_ok {t s by' m n id : Nat} {x y : Operand} {v : AVal} {B : Blk} {zrow : List AVal} {rows : List (List AVal)} {p : Bool} {ids : List Nat} (ho : o.op = .call { callee := .builtin .append, args := #[x, y], argTypes := #[t, t] }) (hz : ezero P t = some (s, by', zrow))
    (hx : ev x = some (.sl id 0 n)) (hB : get id = some B) (hBs : B.sz = s) (hBn : B.rows.length = n) (hk : id < k) (hy : ev y = some v) (hs : SrcA get v s m rows p ids) (hm : 0 < m) (hlen : n + m ≤ 9223372036854775807) (hby : (n + m) * by' ≤ 140737488355328) (hone : (rows.all fun row => row.all one) = true) :
    OpOk P Γ o ev get k ⟨.sl k 0 (n + m), k + 1, [(k, some ⟨s, B.pure && p, B.rows ++ rows⟩), (id, none)], id :: ids⟩ := by
  have := append_core (P := P) (Γ := Γ) (o := o) (ev := ev) (get := get) (k := k) (n := n) (olds := B.rows) (pd := B.pure) (idd := some id) (rds := id :: ids) ho hz hm hlen hby (one_row_one hone) (fun id' h => by cases h; exact hk)
    (fun w G ρ H A a hr hrd hop => by
      obtain ⟨B', A', h1, h2, h3⟩ := hrd id (by simp)
      rw [hB] at h1; cases h1
      exact .inr ⟨id, B, A', rfl, h2, h3, hBs, rfl, rfl, hBn, hop x (by simp [ho, Op.operands, Call.operands]) _ hx⟩)
    (fun w G ρ H A a hr hrd hop => hs.src hr (fun i hi => hrd i (List.mem_cons_of_mem _ hi)) (hop y (by simp [ho, Op.operands, Call.operands]) _ hy))
  simpa using this
end
end Go.AM
end
section
namespace Go.AM
def VLe (v v' : AVal) : Prop := ∀ w G ρ A cv, V w G ρ A v cv → V w G ρ A v' cv
theorem VLe.refl (v : AVal) : VLe v v := fun _ _ _ _ _ h => h
theorem VLe.junk (v : AVal) : VLe v .junk := fun _ _ _ _ _ _ => .junk
theorem VLe.rd {sz n : Nat} {f g : Nat → List AVal} (h : ∀ i, i < n → f i = g i) : VLe (.rd sz n f) (.rd sz n g) := fun w G ρ A cv hv => by
  cases hv with
  | rd0 => exact .rd0
  | rd gg hb hcap hn hl hc hvv => exact .rd gg hb hcap hn (fun i hi => by rw [← h i hi]; exact hl i hi) (fun i j v hi hj => hc i j v hi (by rw [h i hi]; exact hj)) (fun i j v hi hj => hvv i j v hi (by rw [h i hi]; exact hj))
theorem VLe.agg {cs ds : List AVal} (hl : cs.length = ds.length) (h : ∀ (j : Nat) u v, cs[j]? = some u → ds[j]? = some v → VLe u v) : VLe (.agg cs) (.agg ds) := fun w G ρ A cv hv => by
  cases hv with
  | agg h1 h2 =>
    refine .agg (by omega) fun j v hj => ?_
    · have hlt := (List.getElem?_eq_some_iff.1 hj).1
      have hu : cs[j]? = some cs[j] := List.getElem?_eq_getElem (by omega)
      exact h j _ v hu hj _ _ _ _ _ (h2 j _ hu)
structure BLe (B B' : Blk) : Prop where
  sz : B'.sz = B.sz
  rows : ∀ (r : Nat) row', B'.rows[r]? = some row' → ∃ row, B.rows[r]? = some row ∧ row.length = row'.length ∧ ∀ (c : Nat) u v, row[c]? = some u → row'[c]? = some v → VLe u v
  pure : B'.pure = true → B.pure = true ∨ (B'.rows.all fun row => row.all clean) = true
theorem BLe.refl (B : Blk) : BLe B B := ⟨rfl, fun r row h => ⟨row, h, rfl, fun c u v h1 h2 => by rw [h1] at h2; cases h2; exact VLe.refl _⟩, fun h => .inl h⟩
section
variable {P : Program} {Γ : List (Nat × List AVal)} {nt kb : Nat} {Q Q' : AQ} {k : Nat} {fr : Fr} {H : Heap}
structure WkG (kb k : Nat) (fr : Fr) (H : Heap) (k1 : Nat) (fr1 : Fr) (H1 : Heap) : Prop where
  base : kb ≤ k1
  frm : ∀ t v, look fr1 t = some v → ∃ u, look fr t = some u ∧ VLe u v
  heap : ∀ id B, look H1 id = some B → ∃ C, look H id = some C ∧ BLe C B
  bound : k1 = k ∨ (bdF (ltB k1) fr1 = true ∧ bdH (ltB k1) H1 = true)
theorem BRel.le {w : World} {G : Nat → Prop} {ρ : Names} {A : Allow} {B B' : Blk} {b : Nat} (h : BRel w G ρ A B b) (hl : BLe B B') : BRel w G ρ A B' b := by
  obtain ⟨⟨C, ty, hC, hrows⟩, hlen⟩ := h
  refine ⟨⟨C, ty, hC, fun r row' c v h1 h2 => ?_⟩, fun r row' h1 => ?_⟩
  · obtain ⟨row, h3, h4, h5⟩ := hl.rows r row' h1
    have hlt := (List.getElem?_eq_some_iff.1 h2).1
    have hu : row[c]? = some row[c] := List.getElem?_eq_getElem (by omega)
    obtain ⟨cv, h6, h7⟩ := hrows r row c _ h3 hu
    refine ⟨cv, by rw [hl.sz]; exact h6, ?_⟩
    have h8 := h5 c _ v hu h2 _ _ _ _ _ h7
    by_cases hp' : B'.pure = true
    · simp only [hp', if_true]
      rcases hl.pure hp' with hp | hp
      · simp only [hp, if_true] at h8; exact h8
      · exact clean_V h8 (all_get (all_get hp h1) h2)
    · simp only [hp']
      by_cases hp : B.pure = true
      · simp only [hp, if_true] at h8; exact h8.weaken
      · simp only [hp] at h8; exact h8
  · obtain ⟨row, h3, h4, _⟩ := hl.rows r row' h1
    rw [hl.sz, ← h4]; exact hlen r row h3
theorem WkG.inv {A0 : Allow} {w : World} {G : Nat → Prop} {ρ : Names} {a : Act} {k1 : Nat} {fr1 : Fr} {H1 : Heap} (hw : WkG kb k fr H k1 fr1 H1) (hi : Inv Γ nt w G ρ (alw A0 kb k) a fr H) :
    ∃ ρ', Inv Γ nt w G ρ' (alw A0 kb k1) a fr1 H1 ∧ ∀ A, Step A w G ρ w G ρ' := by
  let ρ' : Names := fun id => match look H1 id with | some _ => ρ id | none => none
  have hρ : ∀ id, ρ' id = none ∨ ρ' id = ρ id := fun id => by
    simp only [ρ']; split
    · exact .inr rfl
    · exact .inl rfl
  have hsome : ∀ id x, ρ' id = some x → ρ id = some x ∧ ∃ B, look H1 id = some B := fun id x h => by
    simp only [ρ'] at h; split at h
    · rename_i B hB; exact ⟨h, B, hB⟩
    · cases h
  have hV : ∀ v cv, V w G ρ (alw A0 kb k) v cv → V w G ρ' (alw A0 kb k) v cv := fun v cv h =>
    h.mono (fun _ h => h) (fun _ _ => rfl) (fun _ _ => rfl) (fun _ h => h) (fun id _ => hρ id)
  have hlow : ∀ i, alw A0 kb k i → i < k1 → alw A0 kb k1 i := fun i h1 h2 => by
    rcases h1 with h1 | h1
    · exact .inl h1
    · exact .inr ⟨h1.1, h2⟩
  have hVl : ∀ v cv, V w G ρ' (fun i => alw A0 kb k i ∧ ltB k1 i = true) v cv → V w G ρ' (alw A0 kb k1) v cv := fun v cv h =>
    h.mono (fun _ h => h) (fun _ _ => rfl) (fun _ _ => rfl) (fun i h => hlow i h.1 (of_decide_eq_true h.2)) (fun _ _ => .inr rfl)
  refine ⟨ρ', ⟨⟨?_, ?_, ?_, hi.rel.ro, hi.rel.glob⟩, hi.size, hi.defers, ?_⟩, fun A => ⟨Nat.le_refl _, fun _ _ _ => rfl, fun _ _ => rfl, fun _ h => h, fun _ h => .inl h, ?_, fun id _ => hρ id, rfl, rfl, rfl⟩⟩
  · intro id h
    simp only [ofHeap, Option.map_eq_none_iff] at h
    simp only [ρ', h]
  · intro id B A h
    simp only [ofHeap, Option.map_eq_some_iff] at h
    obtain ⟨B', hB, he⟩ := h
    cases he
    obtain ⟨C0, hl, hle⟩ := hw.heap id B hB
    obtain ⟨hlt, b, hb, hg, hBR0⟩ := hi.rel.blk id C0 (alw A0 kb k) (by simp [ofHeap, hl])
    have hBR := hBR0.le hle
    refine ⟨?_, b, by simp only [ρ', hB, hb, hle.sz], hg, ?_⟩
    · rcases hw.bound with rfl | ⟨_, hh⟩
      · exact hlt
      · have := look_all hh hB
        simp only [Bool.and_eq_true] at this
        exact hlow _ hlt (of_decide_eq_true this.1)
    · obtain ⟨⟨C, ty, hC, hrows⟩, hlen⟩ := hBR
      refine ⟨⟨C, ty, hC, fun r row c v hr hc => ?_⟩, hlen⟩
      obtain ⟨cv, h1, h2⟩ := hrows r row c v hr hc
      refine ⟨cv, h1, ?_⟩
      by_cases hp : B.pure = true
      · simp only [hp, if_true] at h2 ⊢; exact h2
      · simp only [hp] at h2 ⊢
        have h3 := hV v cv h2
        rcases hw.bound with rfl | ⟨_, hh⟩
        · exact h3
        · have := look_all hh hB
          simp only [Bool.and_eq_true, Bool.or_eq_true] at this
          have h5 := this.2.resolve_left hp
          have h4 := all_get (all_get h5 hr) hc
          exact hVl _ _ (V_bd0 h3 h4)
  · intro i j b s t h1 h2
    exact hi.rel.inj i j b s t (hsome _ _ h1).1 (hsome _ _ h2).1
  · intro t v h
    obtain ⟨u, hu, hle⟩ := hw.frm t v h
    have h1 := hV _ _ (hle _ _ _ _ _ (hi.frm t u hu))
    rcases hw.bound with rfl | ⟨hf, _⟩
    · exact h1
    · exact hVl _ _ (V_bd h1 (look_all hf h))
  · rintro b ⟨id, s, hb⟩
    exact .inl ⟨id, s, (hsome _ _ hb).1⟩
def upG (kb : Nat) (Q : AQ) : AQ := fun e k fr H => ∃ k1 fr1 H1, WkG kb k fr H k1 fr1 H1 ∧ Q e k1 fr1 H1
theorem W_upG {c : Code} (h : W P Γ nt kb c (upG kb Q) k fr H) : W P Γ nt kb c Q k fr H := fun A0 hA0 hk w G ρ a hi =>
  wp_mono (h A0 hA0 hk w G ρ a hi) fun e a' w' hp => by
    obtain ⟨G', ρ', k', fr', H', ⟨k1, fr1, H1, hw, hQ⟩, hk', hi', hst⟩ := hp
    obtain ⟨ρ1, hi1, hs1⟩ := hw.inv hi'
    exact ⟨G', ρ1, k1, fr1, H1, hQ, hw.base, hi1, hst.trans (hs1 (below kb)) (fun _ h => h)⟩
def frz0 (id : Nat) (B : Blk) : AVal → AVal
  | .sl i r n => if i = id ∧ r + n ≤ B.rows.length then .rd B.sz n (fun j => B.rows.getD (r + j) []) else .sl i r n
  | .ptr i r c => if i = id ∧ r < B.rows.length then .rp ((B.rows.getD r []).drop c) else .ptr i r c
  | v => v
def frz (id : Nat) (B : Blk) : AVal → AVal
  | .agg cs => .agg (cs.map (frz0 id B))
  | .fn f cs => .fn f (cs.map (frz0 id B))
  | v => frz0 id B v
def frzF (id : Nat) (B : Blk) (fr : Fr) : Fr := fr.map fun x => (x.1, frz id B x.2)
def frzB (id : Nat) (B : Blk) (C : Blk) : Blk := if C.pure then C else ⟨C.sz, false, C.rows.map fun row => row.map (frz0 id B)⟩
def frzH (id : Nat) (B : Blk) (H : Heap) : Heap := (del H id).map fun x => (x.1, frzB id B x.2)
theorem look_map {α β : Type} (f : α → β) : ∀ (l : List (Nat × α)) (i : Nat), look (l.map fun x => (x.1, f x.2)) i = (look l i).map f
  | [], i => rfl
  | (a, x) :: r, i => by
    simp only [List.map_cons, look]
    by_cases h : a = i
    · rw [if_pos h, if_pos h]; rfl
    · rw [if_neg h, if_neg h]; exact look_map f r i
theorem frz0_V {w : World} {G G' : Nat → Prop} {ρ : Names} {A A' : Allow} {id b : Nat} {B : Blk} (hG : ∀ x, G x → G' x) (hGb : G' b) (hρ : ρ id = some (b, B.sz)) (hB : BRel w G ρ A B b) (hp : B.pure = true) {v : AVal} {cv : Value} (hv : V w G ρ A' v cv) :
    V w G' (setN ρ id none) A' (frz0 id B v) cv := by
  have base : ∀ u cu, V w G ρ A' u cu → V w G' (setN ρ id none) A' u cu := fun u cu h =>
    h.mono hG (fun _ _ => rfl) (fun _ _ => rfl) (fun _ h => h) (fun i _ => by
      simp only [setN]; split
      · exact .inl rfl
      · exact .inr rfl)
  cases hv with
  | nn => simp only [frz0]; exact .nn
  | dangc ha hr => exact base _ _ (.dangc ha hr)
  | slc h1 h2 h3 h4 h5 h6 h7 => exact base _ _ (.slc h1 h2 h3 h4 h5 h6 h7)
  | bfn h => exact base _ _ (.bfn h)
  | sl ha hr hsh hm hn hc hoff =>
    rename_i i r n b' s ty m cap off
    simp only [frz0]
    split
    · rename_i hcond
      obtain ⟨rfl, hle⟩ := hcond
      rw [hρ] at hr; cases hr
      by_cases hn0 : n = 0
      · subst hn0; exact .rd0
      · have hoff' := hoff.resolve_left (by omega)
        subst hoff'
        obtain ⟨⟨C, ty', hC, hrows⟩, hlen⟩ := hB
        have hrow : ∀ j, j < n → B.rows[r + j]? = some (B.rows.getD (r + j) []) := fun j hj => by
          rw [List.getD_eq_getElem?_getD, List.getElem?_eq_getElem (by omega)]; rfl
        refine .rd (fun j c => C.getD ((r + j) * B.sz + c) undef) hGb hn (by omega) (fun j hj => hlen _ _ (hrow j hj)) (fun j c v hj hc' => ?_) (fun j c v hj hc' => ?_)
        · obtain ⟨cu, h1, _⟩ := hrows _ _ c v (hrow j hj) hc'
          rw [cell_of_row w b _ C ty' (0, 0) hC]
          have e : r * B.sz + j * B.sz + c = (r + j) * B.sz + c := by rw [Nat.add_mul]
          rw [e, h1, Array.getD_eq_getD_getElem?, h1]; rfl
        · obtain ⟨cu, h1, h2⟩ := hrows _ _ c v (hrow j hj) hc'
          simp only [hp, if_true] at h2
          have e : C.getD ((r + j) * B.sz + c) undef = cu := by rw [Array.getD_eq_getD_getElem?, h1]; rfl
          rw [e]
          exact h2.mono hG (fun _ _ => rfl) (fun _ _ => rfl) (fun _ h => h) (fun _ h => h.elim)
    · exact base _ _ (.sl ha hr hsh hm hn hc hoff)
  | sl0 ha hr =>
    simp only [frz0]
    split
    · exact .rd0
    · exact base _ _ (.sl0 ha hr)
  | dangs ha hr =>
    rename_i i r n x m c
    simp only [frz0]
    split
    · rename_i hcond
      obtain ⟨rfl, _⟩ := hcond
      rw [hρ] at hr; cases hr
    · exact base _ _ (.dangs ha hr)
  | junk => exact base _ _ .junk
  | lit => exact base _ _ .lit
  | dang ha hr =>
    rename_i i r c x
    simp only [frz0]
    split
    · rename_i hcond
      obtain ⟨rfl, _⟩ := hcond
      rw [hρ] at hr; cases hr
    · exact base _ _ (.dang ha hr)
  | ptr ha hr =>
    rename_i i r c b' s
    simp only [frz0]
    split
    · rename_i hcond
      obtain ⟨rfl, hlt⟩ := hcond
      rw [hρ] at hr; cases hr
      obtain ⟨⟨C, ty', hC, hrows⟩, hlen⟩ := hB
      have hrow : B.rows[r]? = some (B.rows.getD r []) := by
        rw [List.getD_eq_getElem?_getD, List.getElem?_eq_getElem hlt]; rfl
      refine .rp (fun j => C.getD (r * B.sz + (c + j)) undef) hGb (fun j v hj => ?_) (fun j v hj => ?_)
      · rw [List.getElem?_drop] at hj
        obtain ⟨cu, h1, _⟩ := hrows _ _ _ v hrow hj
        rw [cell_of_row w b _ C ty' (0, 0) hC, Nat.add_assoc, h1, Array.getD_eq_getD_getElem?, h1]; rfl
      · rw [List.getElem?_drop] at hj
        obtain ⟨cu, h1, h2⟩ := hrows _ _ _ v hrow hj
        simp only [hp, if_true] at h2
        have e : C.getD (r * B.sz + (c + j)) undef = cu := by rw [Array.getD_eq_getD_getElem?, h1]; rfl
        rw [e]
        exact h2.mono hG (fun _ _ => rfl) (fun _ _ => rfl) (fun _ h => h) (fun _ h => h.elim)
    · exact base _ _ (.ptr ha hr)
  | rp g h1 h2 h3 => exact base _ _ (.rp g h1 h2 h3)
  | rd0 => exact base _ _ .rd0
  | rd g h1 h2 h3 h4 h5 h6 => exact base _ _ (.rd g h1 h2 h3 h4 h5 h6)
  | agg h1 h2 => exact base _ _ (.agg h1 h2)
  | tup h1 h2 => exact base _ _ (.tup h1 h2)
  | fn h1 h2 => exact base _ _ (.fn h1 h2)
theorem frz_V {w : World} {G G' : Nat → Prop} {ρ : Names} {A A' : Allow} {id b : Nat} {B : Blk} (hG : ∀ x, G x → G' x) (hGb : G' b) (hρ : ρ id = some (b, B.sz)) (hB : BRel w G ρ A B b) (hp : B.pure = true) {v : AVal} {cv : Value} (hv : V w G ρ A' v cv) :
    V w G' (setN ρ id none) A' (frz id B v) cv := by
  cases v with
  | agg cells =>
    cases hv with
    | agg h1 h2 =>
      refine .agg (by simpa using h1) fun j u hj => ?_
      rw [List.getElem?_map] at hj
      simp only [Option.map_eq_some_iff] at hj
      obtain ⟨u', hu', rfl⟩ := hj
      exact frz0_V hG hGb hρ hB hp (h2 j u' hu')
  | fn f cells =>
    cases hv with
    | fn h1 h2 =>
      refine .fn (by simpa using h1) fun j u hj => ?_
      rw [List.getElem?_map] at hj
      simp only [Option.map_eq_some_iff] at hj
      obtain ⟨u', hu', rfl⟩ := hj
      exact frz0_V hG hGb hρ hB hp (h2 j u' hu')
  | _ => exact frz0_V hG hGb hρ hB hp hv
theorem freeze_inv {A : Allow} {w : World} {G : Nat → Prop} {ρ : Names} {a : Act} {id : Nat} {B : Blk} (hB : look H id = some B) (hp : B.pure = true) (hi : Inv Γ nt w G ρ A a fr H) :
    ∃ G' ρ', Inv Γ nt w G' ρ' A a (frzF id B fr) (frzH id B H) ∧ ∀ S, Step S w G ρ w G' ρ' := by
  obtain ⟨hA, b, hb, hg, hBR⟩ := hi.rel.blk id B A (by simp [ofHeap, hB])
  let G' : Nat → Prop := fun x => G x ∨ x = b
  have hst : ∀ S : Allow, Step S w G ρ w G' (setN ρ id none) := fun S => by
    refine ⟨Nat.le_refl _, fun _ _ _ => rfl, fun _ _ => rfl, fun _ h => .inl h, fun x h => ?_, ?_, fun i _ => ?_, rfl, rfl, rfl⟩
    · rcases h with h | h
      · exact .inl h
      · exact .inr (.inl (h ▸ ⟨id, _, hb⟩))
    · rintro x ⟨i, s, hx⟩
      simp only [setN] at hx
      split at hx
      · cases hx
      · exact .inl ⟨i, s, hx⟩
    · simp only [setN]; split
      · exact .inl rfl
      · exact .inr rfl
  have hV : ∀ A' v cv, V w G ρ A' v cv → V w G' (setN ρ id none) A' (frz id B v) cv := fun A' v cv h => frz_V (fun _ h => .inl h) (.inr rfl) hb hBR hp h
  have hV0 : ∀ A' v cv, V w G ρ A' v cv → V w G' (setN ρ id none) A' (frz0 id B v) cv := fun A' v cv h => frz0_V (fun _ h => .inl h) (.inr rfl) hb hBR hp h
  refine ⟨G', setN ρ id none, ⟨?_, hi.size, hi.defers, fun t v hv => ?_⟩, hst⟩
  · refine hi.rel.after (hst (fun _ => True)) _ (fun i hi' => ?_) (fun i C A1 hi' => ?_) (fun i j c s t h1 h2 => ?_) (fun x hx => ?_)
    · simp only [ofHeap, Option.map_eq_none_iff, frzH] at hi'
      rw [look_map, Option.map_eq_none_iff, look_del] at hi'
      simp only [setN]
      split at hi'
      · rename_i he; rw [if_pos he]
      · rename_i he; rw [if_neg he]; exact hi.rel.dom i (by simp [ofHeap, hi'])
    · simp only [ofHeap, Option.map_eq_some_iff, frzH] at hi'
      obtain ⟨C', hC', he⟩ := hi'
      cases he
      rw [look_map, Option.map_eq_some_iff] at hC'
      obtain ⟨D, hD, rfl⟩ := hC'
      rw [look_del] at hD
      split at hD
      · cases hD
      · rename_i hne
        obtain ⟨h1, b', h2, h3, h4⟩ := hi.rel.blk i D A (by simp [ofHeap, hD])
        have hbne : b' ≠ b := fun he => hne (hi.rel.inj i id _ _ _ h2 (he ▸ hb))
        have hg' : ¬ G' b' := fun h => h.elim h3 hbne
        have hsz : (frzB id B D).sz = D.sz := by unfold frzB; split <;> rfl
        refine ⟨h1, .inr ⟨b', by simp only [setN, hne, if_false, h2, hsz], hg', ?_⟩⟩
        unfold frzB
        split
        · rename_i hpd
          exact h4.step hi.rel (hst (fun _ => True)) (fun _ _ => trivial) (fun _ h => h) rfl
        · rename_i hpd
          obtain ⟨⟨C, ty, hC, hrows⟩, hlen⟩ := h4
          have hgr : ∀ (r : Nat) row, (D.rows.map fun row => row.map (frz0 id B))[r]? = some row → ∃ row0, D.rows[r]? = some row0 ∧ row = row0.map (frz0 id B) := fun r row h => by
            rw [List.getElem?_map] at h
            simp only [Option.map_eq_some_iff] at h
            obtain ⟨row0, h5, rfl⟩ := h
            exact ⟨row0, h5, rfl⟩
          refine ⟨⟨C, ty, hC, fun r row c v h5 h6 => ?_⟩, fun r row h5 => ?_⟩
          · obtain ⟨row0, h7, rfl⟩ := hgr r row h5
            rw [List.getElem?_map] at h6
            simp only [Option.map_eq_some_iff] at h6
            obtain ⟨v0, h8, rfl⟩ := h6
            obtain ⟨cv, h9, h10⟩ := hrows r row0 c v0 h7 h8
            simp only [hpd] at h10
            exact ⟨cv, h9, by simp only [Bool.false_eq_true, if_false]; exact hV0 _ _ _ h10⟩
          · obtain ⟨row0, h7, rfl⟩ := hgr r row h5
            simpa using hlen r row0 h7
    · simp only [setN] at h1 h2
      split at h1
      · cases h1
      · split at h2
        · cases h2
        · exact hi.rel.inj i j c s t h1 h2
    · rcases hx with hx | rfl
      · exact hi.rel.ro x hx
      · exact hi.rel.owned_lt ⟨id, _, hb⟩
  · unfold frzF at hv
    rw [look_map, Option.map_eq_some_iff] at hv
    obtain ⟨u, hu, rfl⟩ := hv
    exact hV _ _ _ (hi.frm t u hu)
theorem Tr.weaken {f : FuncId} {args : List AVal} {H : Heap} {Q Q' : Nat → AVal → Heap → Prop} (h : Tr P Γ f k args H Q')
    (hq : ∀ k' r H', k ≤ k' → Q' k' r H' → ∃ k1 r1 H1, k ≤ k1 ∧ VLe r r1 ∧ (∀ id B, look H1 id = some B → ∃ C, look H' id = some C ∧ BLe C B) ∧ (k1 = k' ∨ (bd (ltB k1) r1 = true ∧ bdH (ltB k1) H1 = true)) ∧ Q k1 r1 H1) : Tr P Γ f k args H Q := by
  intro A hA w G ρ cargs h1 h2
  refine (h A hA w G ρ cargs h1 h2).mono ?_
  rintro e w' ⟨cv, G', ρ', k', r, H', rfl, hQ, hk, hrel, hv, hst⟩
  obtain ⟨k1, r1, H1, hk1, hle, hH, hb, hQ1⟩ := hq k' r H' hk hQ
  have hi : Inv Γ 1 w' G' ρ' (alw A k k') { tmps := #[cv], defers := [] } [(0, r)] H' := ⟨hrel, rfl, rfl, fun t v hv' => by
    simp only [look] at hv'
    split at hv'
    · rename_i he; subst he; cases hv'; exact hv
    · cases hv'⟩
  have hw : WkG k k' [(0, r)] H' k1 [(0, r1)] H1 := ⟨hk1, fun t v hv' => by
    simp only [look] at hv' ⊢
    split at hv'
    · rename_i he; cases hv'; exact ⟨r, by rw [if_pos he], hle⟩
    · exact absurd hv' (by simp), hH, hb.imp id (fun h => ⟨by simp [bdF, h.1], h.2⟩)⟩
  obtain ⟨ρ1, hi1, hs1⟩ := hw.inv hi
  exact ⟨cv, G', ρ1, k1, r1, H1, rfl, hQ1, hk1, hi1.rel, hi1.frm 0 r1 (by simp [look]), hst.trans (hs1 (below k)) (fun _ h => h)⟩
def Pure (P : Program) (Γ : List (Nat × List AVal)) (f : FuncId) (args : List AVal) (r : AVal) : Prop := ∀ k, Tr P Γ f k args [] (fun k1 r1 H1 => k1 = k ∧ r1 = r ∧ H1 = [])
theorem Pure_body {f : FuncId} {fn : Func} {c : Code} {args : List AVal} {r : AVal} (hf : P.funcs[f]? = some fn) (hb : fn.body = some c) (hn : args.length ≤ fn.ntmps) (hr : bd (fun _ => false) r = true)
    (h : ∀ k, W P Γ fn.ntmps k c (retQ P fn (fun _ r1 _ => VLe r1 r)) k (argFr 0 args) []) : Pure P Γ f args r := fun k => by
  refine (Tr_body hf hb hn (h k)).weaken fun k' r1 H' hk hle => ⟨k, r, [], Nat.le_refl _, hle, fun id B hB => by simp [look] at hB, .inr ⟨?_, rfl⟩, rfl, rfl, rfl⟩
  have mono0 : ∀ v, bd0 (fun _ => false) v = true → bd0 (ltB k) v = true := fun v hv => by cases v <;> simp_all [bd0]
  have mono1 : ∀ v, bd1 (fun _ => false) v = true → bd1 (ltB k) v = true := fun v hv => by
    cases v with
    | agg cs => exact List.all_eq_true.2 fun x hx => mono0 x (List.all_eq_true.1 hv x hx)
    | fn f cs => exact List.all_eq_true.2 fun x hx => mono0 x (List.all_eq_true.1 hv x hx)
    | _ => simp_all [bd1, bd0]
  cases r with
  | tup cs => exact List.all_eq_true.2 fun x hx => mono1 x (List.all_eq_true.1 hr x hx)
  | agg cs => exact mono1 (.agg cs) hr
  | fn f cs => exact mono1 (.fn f cs) hr
  | _ => simp_all [bd, bd1, bd0]
end
end Go.AM
end
