import Derived.Test.YteimiejbhhgljaaGreatDoorZAK
set_option linter.unusedVariables false
set_option linter.unusedSimpArgs false
section
namespace Go.Proofs.T
open Go Go.AM Go.Proofs
set_option maxRecDepth 20000
def IdSt (s : St) : Prop := ∀ i j, i < j → j < s.nt → (s.tsk i).id < (s.tsk j).id
structure IdOk (s : St) : Prop where
  st : IdSt s
  lo : ∀ i, i < s.nt → 1 ≤ (s.tsk i).id
  hi : ∀ i, i < s.nt → (s.tsk i).id ≤ 65535
theorem flats_none {f : Nat → List Flt} {n : Nat} (h : (flats f n).length = 0) : ∀ i, i < n → (f i).length = 0 := fun i hi => by
  cases hf : f i with
  | nil => rfl
  | cons x l =>
    have hm : x ∈ flats f n := mem_flats.2 ⟨i, hi, by rw [hf]; simp⟩
    rw [List.eq_nil_of_length_eq_zero h] at hm; cases hm
theorem iff1_none {b : Bool} {f : Flt} (h : (iff1 b f).length = 0) : b = false := by
  cases b
  · rfl
  · simp [iff1] at h
theorem idOk_of {s : St} (h : (checkR s).length = 0) : IdOk s := by
  have hp : (partsL s).length = 0 := by
    unfold checkR at h
    split at h
    · simp at h
    · split at h
      · omega
      · split at h <;> omega
  have hb : (flats (brkR s) 7).length = 0 := by
    unfold partsL at hp; simp only [List.length_append] at hp; omega
  have hr : ∀ r : Nat, r < 7 → ∀ i, i < s.nt → brk s i ((r : Int) + 4) = false := fun r hr i hi => by
    have h1 := flats_none hb r hr
    have h2 := flats_none (f := brkAt s r) (n := s.nt) h1 i hi
    exact iff1_none h2
  have h4 : ∀ i, i < s.nt → t4 s i = false := fun i hi => by have := hr 0 (by omega) i hi; rwa [brk4 (by omega)] at this
  have h5 : ∀ i, i < s.nt → t5 s i = false := fun i hi => by have := hr 1 (by omega) i hi; rwa [brk5 (by omega)] at this
  have hadj : ∀ i, i + 1 < s.nt → (s.tsk i).id < (s.tsk (i + 1)).id := fun i hi => by
    have h9 := h4 (i + 1) hi
    simp only [t4, Bool.and_eq_false_iff, decide_eq_false_iff_not, Nat.add_sub_cancel] at h9
    omega
  refine ⟨fun i j hij => ?_, fun i hi => ?_, fun i hi => ?_⟩
  · induction j with
    | zero => omega
    | succ j ih =>
      intro hj
      have h1 := hadj j hj
      by_cases he : i = j
      · subst he; exact h1
      · have := ih (by omega) (by omega); omega
  · have := h5 i hi; simp only [t5, decide_eq_false_iff_not] at this; omega
  · have := h5 i hi; simp only [t5, decide_eq_false_iff_not] at this; omega
def idB (s : St) (n : Nat) (x : Int) : Bool := anyB (fun j => (s.tsk j).id == x) n
def fndT (s : St) (x : Int) : Option Nat := f0 (fun j => (s.tsk j).id == x) s.nt
def tkNe (x y : Tk) : Bool := decide (¬ (x.id = y.id ∧ x.group = y.group ∧ x.weight = y.weight ∧ x.cpu = y.cpu ∧ x.mask = y.mask ∧ x.ready = y.ready ∧ x.v = y.v ∧ x.r = y.r))
def goneL (a b : St) (i : Nat) : List Int := if1 (!(idB b b.nt (a.tsk i).id)) (a.tsk i).id
def newB (a b : St) (i : Nat) : Bool := match fndT a (b.tsk i).id with
  | none => true
  | some j => tkNe (a.tsk j) (b.tsk i)
def newTk (a b : St) (i : Nat) : List Tk := if1 (newB a b i) (b.tsk i)
def tkV (t : Tk) : Value := .agg #[.int .i64 t.id, .int .i64 t.group, .int .i64 t.weight, .int .i64 t.cpu, .int .u64 t.mask, .bool t.ready, .int .u64 t.v, .int .u32 t.r]
def tEnts (a : St) (n : Nat) : Ents := (List.range n).map fun j => ((a.tsk j).id, tkV (a.tsk j), j)
theorem tEnts_succ {a : St} {n : Nat} : tEnts a (n + 1) = tEnts a n ++ [((a.tsk n).id, tkV (a.tsk n), n)] := by unfold tEnts; rw [List.range_succ, List.map_append]; rfl
theorem mem_tEnts {a : St} {n : Nat} {e : Int × Value × Nat} : e ∈ tEnts a n ↔ ∃ j, j < n ∧ e = ((a.tsk j).id, tkV (a.tsk j), j) := by
  unfold tEnts
  rw [List.mem_map]
  exact ⟨fun ⟨j, h1, h2⟩ => ⟨j, List.mem_range.1 h1, h2.symm⟩, fun ⟨j, h1, h2⟩ => ⟨j, List.mem_range.2 h1, h2.symm⟩⟩
theorem tEnts_new {a : St} (h : IdSt a) {n : Nat} (hn : n < a.nt) : ∀ e ∈ tEnts a n, e.1 ≠ (a.tsk n).id := fun e he => by
  obtain ⟨j, hj, rfl⟩ := mem_tEnts.1 he
  have := h j n hj hn
  simp only; omega
theorem wf_i64 {x : Int} (h1 : 1 ≤ x) (h2 : x ≤ 65535) : wfK .i64 x = true := by
  have e1 : IntKind.i64.min = -9223372036854775808 := by decide
  have e2 : IntKind.i64.max = 9223372036854775807 := by decide
  simp [wfK, Lit.wf, e1, e2]; omega
theorem tEnts_wf {a : St} (h : IdOk a) {n : Nat} (hn : n ≤ a.nt) : ∀ e ∈ tEnts a n, wfK .i64 e.1 = true := fun e he => by
  obtain ⟨j, hj, rfl⟩ := mem_tEnts.1 he
  exact wf_i64 (h.lo j (by omega)) (h.hi j (by omega))
def lft (a b : St) (i : Nat) : Ents := (tEnts a a.nt).filter fun e => !(idB b i e.1)
theorem lft_zero {a b : St} : lft a b 0 = tEnts a a.nt := List.filter_eq_self.2 fun e he => rfl
theorem lft_succ {a b : St} {i : Nat} : lft a b (i + 1) = delM (lft a b i) (b.tsk i).id := by
  unfold lft delM
  rw [List.filter_filter]
  apply List.filter_congr
  intro e _
  rw [idB, anyB, Bool.not_or, Bool.and_comm]
  congr 1
  rw [show ((b.tsk i).id == e.1) = (e.1 == (b.tsk i).id) from Bool.eq_iff_iff.2 (by simp only [beq_iff_eq]; exact ⟨Eq.symm, Eq.symm⟩)]
theorem lft_mem {a b : St} {i : Nat} {e : Int × Value × Nat} (he : e ∈ lft a b i) : ∃ j, j < a.nt ∧ e = ((a.tsk j).id, tkV (a.tsk j), j) := mem_tEnts.1 (List.mem_filter.1 he).1
theorem lft_wf {a b : St} (h : IdOk a) {i : Nat} : ∀ e ∈ lft a b i, wfK .i64 e.1 = true := fun e he => tEnts_wf h (Nat.le_refl _) e (List.mem_filter.1 he).1
theorem tEnts_keys {a : St} (h : IdSt a) : UKeys (tEnts a a.nt) := by
  unfold UKeys tEnts
  rw [List.map_map]
  unfold List.Nodup
  rw [List.pairwise_map]
  refine List.Pairwise.imp_of_mem (fun {x y} hx hy hxy => ?_) List.pairwise_lt_range
  have := h x y hxy (List.mem_range.1 hy)
  simp only [Function.comp]; omega
theorem lft_keys {a b : St} (h : IdSt a) {i : Nat} : UKeys (lft a b i) :=
  List.Nodup.sublist (List.Sublist.map _ List.filter_sublist) (tEnts_keys h)
theorem lft_stamps {a b : St} {i : Nat} : ((lft a b i).map (·.2.2)).Nodup := by
  refine List.Nodup.sublist (List.Sublist.map _ List.filter_sublist) ?_
  unfold tEnts
  rw [List.map_map]
  have : ((fun x : Int × Value × Nat => x.2.2) ∘ fun j => ((a.tsk j).id, tkV (a.tsk j), j)) = id := rfl
  rw [this, List.map_id]
  exact List.nodup_range
theorem lft_old {a b : St} {i : Nat} : ∀ e ∈ lft a b i, e.2.2 < a.nt := fun e he => by
  obtain ⟨j, hj, rfl⟩ := lft_mem he; exact hj
theorem f0_spec {f : Nat → Bool} : ∀ {n : Nat} {i : Nat}, f0 f n = some i → i < n ∧ f i = true
  | 0, i, h => by simp [f0] at h
  | n + 1, i, h => by
    rw [f0] at h
    split at h
    · rename_i j hj; cases h; have := f0_spec hj; exact ⟨by omega, this.2⟩
    · split at h
      · cases h; exact ⟨by omega, by assumption⟩
      · cases h
theorem f0_nospec {f : Nat → Bool} : ∀ {n : Nat}, f0 f n = none → ∀ i, i < n → f i = false
  | 0, _, i, hi => absurd hi (by omega)
  | n + 1, h, i, hi => by
    rw [f0] at h
    split at h
    · cases h
    · split at h
      · cases h
      · rename_i h1 h2
        by_cases he : i = n
        · subst he; simpa using h2
        · exact f0_nospec h1 i (by omega)
theorem lft_find {a b : St} (ha : IdSt a) (hb : IdSt b) {i : Nat} (hi : i < b.nt) : findM (lft a b i) (b.tsk i).id = (fndT a (b.tsk i).id).map fun j => tkV (a.tsk j) := by
  cases hf : fndT a (b.tsk i).id with
  | none =>
    have h := f0_nospec hf
    rw [findM_none fun e he => ?_]; rfl
    obtain ⟨j, hj, rfl⟩ := lft_mem he
    have := h j hj
    simpa using this
  | some j =>
    obtain ⟨hj, he⟩ := f0_spec hf
    simp only [beq_iff_eq] at he
    have hm : ((a.tsk j).id, tkV (a.tsk j), j) ∈ lft a b i := List.mem_filter.2 ⟨mem_tEnts.2 ⟨j, hj, rfl⟩, by
      rw [Bool.not_eq_true']
      exact anyB_false fun q hq => by
        have := hb q i hq hi
        simp only [beq_eq_false_iff_ne]; omega⟩
    obtain ⟨q, hq⟩ := List.mem_iff_getElem?.1 hm
    rw [findM_some (lft_keys ha) hq he]; rfl
def gone (a b : St) : List Int := flx (goneL a b) a.nt
theorem lft_gone {a b : St} : (lft a b b.nt).map (·.1) = gone a b := by
  have h : ∀ n, ((tEnts a n).filter fun e => !(idB b b.nt e.1)).map (·.1) = flx (goneL a b) n := fun n => by
    induction n with
    | zero => rfl
    | succ n ih =>
      rw [tEnts_succ, List.filter_append, List.map_append, ih, flx_succ, goneL, if1]
      cases h : !(idB b b.nt (a.tsk n).id)
      all_goals (simp only [List.filter_cons, h])
      all_goals (first | rfl | simp)
  exact h a.nt
theorem gone_sorted {a b : St} (h : IdSt a) : (gone a b).Pairwise (fun x y => x ≤ y) := by
  rw [← lft_gone]
  rw [List.pairwise_map]
  have h1 : (tEnts a a.nt).Pairwise (fun x y => x.1 ≤ y.1) := by
    unfold tEnts
    rw [List.pairwise_map]
    refine List.Pairwise.imp_of_mem (fun {x y} hx hy hxy => ?_) List.pairwise_lt_range
    have := h x y hxy (List.mem_range.1 hy)
    simp only; omega
  exact h1.filter _
theorem come_nil {l : Ents} : toCome l [] = l := List.filter_eq_self.2 fun e _ => rfl
theorem take_one {l : Ents} (hn : (l.map (·.2.2)).Nodup) {e : Int × Value × Nat} (he : e ∈ l) : l.Perm (e :: l.filter fun x => !(x.2.2 == e.2.2)) := by
  induction l with
  | nil => cases he
  | cons a l ih =>
    simp only [List.map_cons, List.nodup_cons] at hn
    rcases List.mem_cons.1 he with rfl | h1
    · rw [List.filter_cons_of_neg (by simp), List.filter_eq_self.2 fun x hx => by
        have : x.2.2 ≠ e.2.2 := fun h => hn.1 (h ▸ List.mem_map.2 ⟨x, hx, rfl⟩)
        simpa using this]
    · have hne : a.2.2 ≠ e.2.2 := fun h => hn.1 (h ▸ List.mem_map.2 ⟨e, h1, rfl⟩)
      rw [List.filter_cons_of_pos (by simpa using hne)]
      exact ((ih hn.2 h1).cons a).trans (List.Perm.swap _ _ _)
theorem come_step {l : Ents} (hn : (l.map (·.2.2)).Nodup) {seen : List Nat} {e : Int × Value × Nat} (he : e ∈ toCome l seen) : (toCome l seen).Perm (e :: toCome l (seen ++ [e.2.2])) := by
  have h1 : toCome l (seen ++ [e.2.2]) = (toCome l seen).filter fun x => !(x.2.2 == e.2.2) := by
    unfold toCome
    rw [List.filter_filter]
    apply List.filter_congr
    intro x _
    rw [Bool.eq_iff_iff]
    simp only [List.contains_eq_mem, List.mem_append, List.mem_singleton, Bool.and_eq_true, Bool.not_eq_true', decide_eq_false_iff_not, beq_eq_false_iff_ne, ne_eq, not_or]
    exact And.comm
  rw [h1]
  exact take_one (List.Nodup.sublist (List.Sublist.map _ List.filter_sublist) hn) he
def Found (l : Ents) (x : List Nat × List Int) : Prop := (x.2 ++ (toCome l x.1).map (·.1)).Perm (l.map (·.1))
theorem found_zero {l : Ents} : Found l ([], []) := by
  unfold Found; rw [come_nil]; exact List.Perm.refl _
theorem found_succ {l : Ents} (hn : (l.map (·.2.2)).Nodup) {seen : List Nat} {acc : List Int} (h : Found l (seen, acc)) {e : Int × Value × Nat} (he : e ∈ toCome l seen) : Found l (seen ++ [e.2.2], acc ++ [e.1]) := by
  unfold Found at *
  simp only at *
  have h1 := (come_step hn he).map (·.1)
  rw [List.append_assoc]
  exact (List.Perm.append_left acc h1.symm).trans h
theorem found_len {l : Ents} {seen : List Nat} {acc : List Int} (h : Found l (seen, acc)) : acc.length ≤ l.length := by
  have := List.Perm.length_eq h
  simp only [List.length_append, List.length_map] at this; omega
theorem found_end {l : Ents} {seen : List Nat} {acc : List Int} (h : Found l (seen, acc)) (h0 : toCome l seen = []) : (l.map (·.1)).Perm acc := by
  unfold Found at h
  simp only [h0, List.map_nil, List.append_nil] at h
  exact h.symm
theorem come_len {l : Ents} (hn : (l.map (·.2.2)).Nodup) {seen : List Nat} {e : Int × Value × Nat} (he : e ∈ toCome l seen) : (toCome l (seen ++ [e.2.2])).length < (toCome l seen).length := by
  have := (come_step hn he).length_eq
  simp only [List.length_cons] at this; omega
def btw0 (a b : St) : Dl := ⟨flx (difN a.clk b.clk) a.nk, flx (difN a.cur b.cur) a.nk, flx (difG a b) a.ng, gone a b, flx (newTk a b) b.nt, flx (fun g => flx (difS a b g) a.nk) a.ns⟩
def noDl : Dl := ⟨[], [], [], [], [], []⟩
def btw (a b : St) : Dl := if badP a b then noDl else if alB a b a.ng = false then noDl else btw0 a b
def btwE (a b : St) : Int := if badP a b then 350 else if alB a b a.ng = false then 351 else 0
end Go.Proofs.T
end
section
namespace Go.AM
open Go
structure Xt where
  op : Oper → (Operand → Option AVal) → (Nat → Option Blk) → Nat → Option Out
  nx : Oper → (Operand → Option AVal) → (Nat → Option Blk) → Nat → Option Out
  tab : FuncId → Nat → List AVal → Heap → Option (Nat × AVal × Heap)
structure XtOk (P : Program) (Γ : List (Nat × List AVal)) (x : Xt) : Prop where
  op : ∀ o ev get k out, x.op o ev get k = some out → Good P Γ o ev get k out
  nx : ∀ o ev get k out, x.nx o ev get k = some out → ∃ rds, GoodN P Γ o ev get k rds (fun out' => out' = out)
  tab : ∀ f k args H k' v H', x.tab f k args H = some (k', v, H') → Tr P Γ f k args H (fun k1 r1 H1 => k1 = k' ∧ r1 = v ∧ H1 = H')
def evOpsX (x : Xt) (e : Ev) (P : Program) (Γ : List (Nat × List AVal)) (all : Array Oper) : List Oper → Nat → Fr → Heap → Option (List Foot × Nat × Fr × Heap)
  | [], k, fr, H => some ([], k, fr, H)
  | o :: r, k, fr, H => match guardOf all fr o with
    | none => none
    | some false => match evOpsX x e P Γ all r k (putO fr o.dst (.lit undef)) H with
      | none => none
      | some (tr, y) => some (⟨[], [], k, k⟩ :: tr, y)
    | some true => match (match isCall o with | true => evCall e P o (aeval Γ fr) H k | false => match x.op o (aeval Γ fr) (look H) k with | some out => some out | none => aop P Γ o (aeval Γ fr) (look H) k) with
      | none => none
      | some out => match evOpsX x e P Γ all r out.k (putO fr o.dst out.v) (updH H out.upd) with
        | none => none
        | some (tr, y) => some (⟨out.rds, out.upd.map (·.1), k, out.k⟩ :: tr, y)
def nxOf (x : Xt) (Γ : List (Nat × List AVal)) (ops : Array Oper) (d : Bool) (k : Nat) (fr : Fr) (H : Heap) : Option (Oper × List Oper × Out) :=
  match d, ops.toList with
  | false, o :: r => match o.guard, x.nx o (aeval Γ fr) (look H) k with
    | none, some out => some (o, r, out)
    | _, _ => none
  | _, _ => none
def evCodeX (x : Xt) (e : Ev) (P : Program) (Γ : List (Nat × List AVal)) (nt : Nat) : Code → Nat → Fr → Heap → Option (Exit × Nat × Fr × Heap)
  | .skip, k, fr, H => some (.normal, k, fr, H)
  | .ret, k, fr, H => some (.ret, k, fr, H)
  | .exit id, k, fr, H => some (.exit id, k, fr, H)
  | .seq a b, k, fr, H => match evCodeX x e P Γ nt a k fr H with
    | some (.normal, k1, fr1, H1) => evCodeX x e P Γ nt b k1 fr1 H1
    | r => r
  | .cond c a b, k, fr, H => match aeval Γ fr c with
    | some (.lit (.bool true)) => evCodeX x e P Γ nt a k fr H
    | some (.lit (.bool false)) => evCodeX x e P Γ nt b k fr H
    | _ => none
  | .block id c, k, fr, H => match evCodeX x e P Γ nt c k fr H with
    | some (.exit id', k1, fr1, H1) => match Nat.beq id' id with
      | true => some (.normal, k1, fr1, H1)
      | false => some (.exit id', k1, fr1, H1)
    | r => r
  | .loop c, k, fr, H => match evCodeX x e P Γ nt c k fr H with
    | some (.normal, k1, fr1, H1) => e.loop nt c k1 fr1 H1
    | r => r
  | .region _ ops d, k, fr, H => match dstOk nt ops with
    | false => none
    | true => match nxOf x Γ ops d k fr H with
      | some (o, r, out) => match evOpsX x e P Γ ops r k (putO fr o.dst out.v) (updH H out.upd) with
        | none => none
        | some (_, k1, fr1, H1) => some (.normal, k1, fr1, H1)
      | none => match evOpsX x e P Γ ops ops.toList k fr H with
        | none => none
        | some (tr, k1, fr1, H1) => match (!d) || (P.follows .mixedOrders && drawOk ops tr) with
          | true => some (.normal, k1, fr1, H1)
          | false => none
  | _, _, _, _ => none
def evFuncX (x : Xt) (e : Ev) (P : Program) (Γ : List (Nat × List AVal)) (f : FuncId) (k : Nat) (args : List AVal) (H : Heap) : Option (Nat × AVal × Heap) :=
  match x.tab f k args H with
  | some r => some r
  | none => match P.funcs[f]? with
    | none => none
    | some fn => match fn.body with
      | none => none
      | some c => match Nat.ble args.length fn.ntmps with
        | false => none
        | true => match evCodeX x e P Γ fn.ntmps c k (argFr 0 args) H with
          | some (.normal, k1, fr1, H1) => match resA P fn fr1 H1 with
            | some r => some (k1, r, subH (reach H1 100000 (nm2 r ++ lowN k H1) []) H1)
            | none => none
          | some (.ret, k1, fr1, H1) => match resA P fn fr1 H1 with
            | some r => some (k1, r, subH (reach H1 100000 (nm2 r ++ lowN k H1) []) H1)
            | none => none
          | _ => none
def evLoopX (x : Xt) (e : Ev) (P : Program) (Γ : List (Nat × List AVal)) (nt : Nat) (c : Code) (k : Nat) (fr : Fr) (H : Heap) : Option (Exit × Nat × Fr × Heap) :=
  match evCodeX x e P Γ nt c k fr H with
  | some (.normal, k1, fr1, H1) => e.loop nt c k1 fr1 H1
  | r => r
def evX (x : Xt) (P : Program) (Γ : List (Nat × List AVal)) : Nat → Ev
  | 0 => ⟨fun _ _ _ _ => none, fun _ _ _ _ _ => none⟩
  | n + 1 => ⟨fun f k args H => evFuncX x (evX x P Γ n) P Γ f k args H, fun nt c k fr H => evLoopX x (evX x P Γ n) P Γ nt c k fr H⟩
section
variable {P : Program} {Γ : List (Nat × List AVal)} {nt kb : Nat} {k : Nat} {fr : Fr} {H : Heap} {e : Ev} {x : Xt}
theorem evOpsX_run (hx : XtOk P Γ x) (he : EvOk P Γ e) {all : Array Oper} : ∀ (l : List Oper) (k : Nat) (fr : Fr) (H : Heap) (tr : List Foot) (k' : Nat) (fr' : Fr) (H' : Heap) (K : List Foot → Nat → Fr → Heap → Prop), evOpsX x e P Γ all l k fr H = some (tr, k', fr', H') → K tr k' fr' H' → Run P Γ all l k fr H K := by
  intro l
  induction l with
  | nil => intro k fr H tr k' fr' H' K h hK; simp only [evOpsX] at h; cases h; exact hK
  | cons o r ih =>
    intro k fr H tr k' fr' H' K h hK
    simp only [evOpsX] at h
    split at h
    · cases h
    · rename_i hg
      split at h
      · cases h
      · rename_i tr1 y hy
        obtain ⟨k1, fr1, H1⟩ := y
        cases h
        exact .inl ⟨hg, ih _ _ _ _ _ _ _ _ hy hK⟩
    · rename_i hg
      split at h
      · cases h
      · rename_i out ho
        split at h
        · cases h
        · rename_i tr1 y hy
          obtain ⟨k1, fr1, H1⟩ := y
          cases h
          refine .inr ⟨hg, out, ?_, ih _ _ _ _ _ _ _ _ hy hK⟩
          split at ho
          · exact evCall_good he ho
          · split at ho
            · rename_i ho'
              cases ho
              exact hx.op _ _ _ _ _ ho'
            · exact aop_good ho
theorem nxOf_spec {ops : Array Oper} {d : Bool} {o : Oper} {r : List Oper} {out : Out} (h : nxOf x Γ ops d k fr H = some (o, r, out)) : d = false ∧ ops.toList = o :: r ∧ o.guard = none ∧ x.nx o (aeval Γ fr) (look H) k = some out := by
  unfold nxOf at h
  split at h
  · rename_i o' r' hl
    split at h
    · rename_i h1 h2; cases h; exact ⟨rfl, hl, h1, h2⟩
    · cases h
  · cases h
theorem evCodeX_ok (hX : XtOk P Γ x) (he : EvOk P Γ e) : ∀ (c : Code) (k : Nat) (fr : Fr) (H : Heap) (ex : Exit) (k' : Nat) (fr' : Fr) (H' : Heap), evCodeX x e P Γ nt c k fr H = some (ex, k', fr', H') → W P Γ nt kb c (isQ ex k' fr' H') k fr H := by
  intro c
  induction c with
  | skip => intro k fr H ex k' fr' H' h; simp only [evCodeX] at h; cases h; exact W_skip ⟨rfl, rfl, rfl, rfl⟩
  | ret => intro k fr H ex k' fr' H' h; simp only [evCodeX] at h; cases h; exact W_ret ⟨rfl, rfl, rfl, rfl⟩
  | exit id => intro k fr H ex k' fr' H' h; simp only [evCodeX] at h; cases h; exact W_exit ⟨rfl, rfl, rfl, rfl⟩
  | seq a b iha ihb =>
    intro k fr H ex k' fr' H' h
    simp only [evCodeX] at h
    cases hx : evCodeX x e P Γ nt a k fr H with
    | none => rw [hx] at h; cases h
    | some r =>
      obtain ⟨e1, k1, fr1, H1⟩ := r
      rw [hx] at h
      refine W_seq (W_mono (iha _ _ _ _ _ _ _ hx) ?_)
      rintro e2 k2 fr2 H2 ⟨rfl, rfl, rfl, rfl⟩
      cases e2 with
      | normal => exact ihb _ _ _ _ _ _ _ h
      | _ => cases h; exact ⟨rfl, rfl, rfl, rfl⟩
  | cond c a b iha ihb =>
    intro k fr H ex k' fr' H' h
    simp only [evCodeX] at h
    split at h
    · rename_i hc; exact W_cond true hc (fun _ => iha _ _ _ _ _ _ _ h) (fun hh => by cases hh)
    · rename_i hc; exact W_cond false hc (fun hh => by cases hh) (fun _ => ihb _ _ _ _ _ _ _ h)
    · cases h
  | block id c ih =>
    intro k fr H ex k' fr' H' h
    simp only [evCodeX] at h
    cases hx : evCodeX x e P Γ nt c k fr H with
    | none => rw [hx] at h; cases h
    | some r =>
      obtain ⟨e1, k1, fr1, H1⟩ := r
      rw [hx] at h
      refine W_block (W_mono (ih _ _ _ _ _ _ _ hx) ?_)
      rintro e2 k2 fr2 H2 ⟨rfl, rfl, rfl, rfl⟩
      cases e2 with
      | exit id' =>
        simp only [blockQ]
        by_cases hid : id' = id
        · subst hid
          simp only [Nat.beq_refl] at h
          cases h
          rw [if_pos rfl]; exact ⟨rfl, rfl, rfl, rfl⟩
        · have hb : Nat.beq id' id = false := by rw [Bool.eq_false_iff]; exact fun hb => hid (Nat.eq_of_beq_eq_true hb)
          simp only [hb] at h
          cases h
          rw [if_neg hid]; exact ⟨rfl, rfl, rfl, rfl⟩
      | _ => cases h; exact ⟨rfl, rfl, rfl, rfl⟩
  | loop c ih =>
    intro k fr H ex k' fr' H' h
    simp only [evCodeX] at h
    cases hx : evCodeX x e P Γ nt c k fr H with
    | none => rw [hx] at h; cases h
    | some r =>
      obtain ⟨e1, k1, fr1, H1⟩ := r
      rw [hx] at h
      cases e1 with
      | normal =>
        obtain ⟨n, hn⟩ := he.loop _ _ _ _ _ _ _ _ _ h kb
        refine W_rounds (n + 1) (W_mono (ih _ _ _ _ _ _ _ hx) ?_)
        rintro e2 k2 fr2 H2 ⟨rfl, rfl, rfl, rfl⟩
        exact hn
      | _ =>
        cases h
        refine W_rounds 1 (W_mono (ih _ _ _ _ _ _ _ hx) ?_)
        rintro e2 k2 fr2 H2 ⟨rfl, rfl, rfl, rfl⟩
        exact ⟨rfl, rfl, rfl, rfl⟩
  | region id ops d =>
    intro k fr H ex k' fr' H' h
    simp only [evCodeX] at h
    split at h
    · cases h
    · rename_i hd
      split at h
      · rename_i o r out hnx
        obtain ⟨rfl, h1, h2, h3⟩ := nxOf_spec hnx
        obtain ⟨rds, h4⟩ := hX.nx _ _ _ _ _ h3
        split at h
        · cases h
        · rename_i tr k1 fr1 H1 hx
          cases h
          refine W_regionN h1 hd h2 h4 fun out' ho' => ?_
          subst ho'
          exact evOpsX_run hX he _ _ _ _ _ _ _ _ _ hx (fun _ => ⟨rfl, rfl, rfl, rfl⟩)
      · split at h
        · cases h
        · rename_i tr k1 fr1 H1 hx
          split at h
          · rename_i hdr
            cases h
            cases d with
            | false => exact W_region hd (evOpsX_run hX he _ _ _ _ _ _ _ _ _ hx (fun _ => ⟨rfl, rfl, rfl, rfl⟩))
            | true =>
              simp only [Bool.not_true, Bool.false_or, Bool.and_eq_true] at hdr
              exact W_draw hdr.1 hd (evOpsX_run hX he _ _ _ _ _ _ _ _ _ hx ⟨hdr.2, fun _ => ⟨rfl, rfl, rfl, rfl⟩⟩)
          · cases h
  | _ => intro k fr H ex k' fr' H' h; simp [evCodeX] at h
theorem evLoopX_ok (hX : XtOk P Γ x) (he : EvOk P Γ e) {c : Code} {ex : Exit} {k' : Nat} {fr' : Fr} {H' : Heap} (h : evLoopX x e P Γ nt c k fr H = some (ex, k', fr', H')) : ∃ n, roundsW P Γ nt kb c (isQ ex k' fr' H') n k fr H := by
  unfold evLoopX at h
  cases hx : evCodeX x e P Γ nt c k fr H with
  | none => rw [hx] at h; cases h
  | some r =>
    obtain ⟨e1, k1, fr1, H1⟩ := r
    rw [hx] at h
    cases e1 with
    | normal =>
      obtain ⟨n, hn⟩ := he.loop _ _ _ _ _ _ _ _ _ h kb
      refine ⟨n + 1, W_mono (evCodeX_ok hX he c _ _ _ _ _ _ _ hx) ?_⟩
      rintro e2 k2 fr2 H2 ⟨rfl, rfl, rfl, rfl⟩
      exact hn
    | _ =>
      cases h
      refine ⟨1, W_mono (evCodeX_ok hX he c _ _ _ _ _ _ _ hx) ?_⟩
      rintro e2 k2 fr2 H2 ⟨rfl, rfl, rfl, rfl⟩
      exact ⟨rfl, rfl, rfl, rfl⟩
theorem evFuncX_ok (hX : XtOk P Γ x) (he : EvOk P Γ e) {f : FuncId} {args : List AVal} {k' : Nat} {v : AVal} {H' : Heap} (h : evFuncX x e P Γ f k args H = some (k', v, H')) : Tr P Γ f k args H (fun k1 r1 H1 => k1 = k' ∧ r1 = v ∧ H1 = H') := by
  unfold evFuncX at h
  split at h
  · rename_i r hr
    cases h
    exact hX.tab _ _ _ _ _ _ _ hr
  split at h
  · cases h
  · rename_i fn hfn
    split at h
    · cases h
    · rename_i c hc
      split at h
      · cases h
      · rename_i hn
        have main : ∀ ex k1 fr1 H1 r, (ex = .normal ∨ ex = .ret) → evCodeX x e P Γ fn.ntmps c k (argFr 0 args) H = some (ex, k1, fr1, H1) → resA P fn fr1 H1 = some r →
            some (k1, r, subH (reach H1 100000 (nm2 r ++ lowN k H1) []) H1) = some (k', v, H') → Tr P Γ f k args H (fun k1 r1 H1 => k1 = k' ∧ r1 = v ∧ H1 = H') := by
          intro ex k1 fr1 H1 r hex hev hr hq
          cases hq
          refine (Tr_body (Q := fun k2 r2 H2 => k2 = k' ∧ r2 = v ∧ H2 = H1) hfn hc (Nat.le_of_ble_eq_true hn) (W_mono (evCodeX_ok hX he c _ _ _ _ _ _ _ hev) ?_)).weaken ?_
          · rintro e2 k2 fr2 H2 ⟨rfl, rfl, rfl, rfl⟩
            rcases hex with rfl | rfl
            · exact ⟨_, hr, rfl, rfl, rfl⟩
            · exact ⟨_, hr, rfl, rfl, rfl⟩
          · rintro k2 r2 H2 hk ⟨rfl, rfl, rfl⟩
            exact ⟨_, _, _, hk, VLe.refl _, fun id B hB => ⟨B, look_subH _ _ _ _ hB, BLe.refl B⟩, .inl rfl, rfl, rfl, rfl⟩
        split at h
        · rename_i k1 fr1 H1 hev
          split at h
          · rename_i r hr; exact main _ _ _ _ _ (.inl rfl) hev hr h
          · cases h
        · rename_i k1 fr1 H1 hev
          split at h
          · rename_i r hr; exact main _ _ _ _ _ (.inr rfl) hev hr h
          · cases h
        · cases h
theorem evX_ok (hX : XtOk P Γ x) : ∀ n, EvOk P Γ (evX x P Γ n)
  | 0 => ⟨fun _ _ _ _ _ _ _ h => (by simp [evX] at h), fun _ _ _ _ _ _ _ _ _ h => (by simp [evX] at h)⟩
  | n + 1 => ⟨fun _ _ _ _ _ _ _ h => evFuncX_ok hX (evX_ok hX n) h, fun _ _ _ _ _ _ _ _ _ h _ => evLoopX_ok hX (evX_ok hX n) h⟩
end
def decE (q : IntKind) : List AVal → Option (Int × Value × Nat)
  | [.lit (.int q' n), .lit v, .lit (.int .i64 s)] => if q' = q ∧ 0 ≤ s then some (n, v, s.toNat) else none
  | _ => none
theorem decE_eq {q : IntKind} {r : List AVal} {e : Int × Value × Nat} (h : decE q r = some e) : r = entR q e := by
  unfold decE at h
  split at h
  · split at h
    · rename_i hc; cases h; obtain ⟨rfl, h2⟩ := hc; simp [entR, Int.toNat_of_nonneg h2]
    · cases h
  · cases h
def decEs (q : IntKind) : List (List AVal) → Option Ents
  | [] => some []
  | r :: l => match decE q r, decEs q l with
    | some e, some m => some (e :: m)
    | _, _ => none
theorem decEs_eq {q : IntKind} : ∀ {rs : List (List AVal)} {l : Ents}, decEs q rs = some l → rs = l.map (entR q)
  | [], l, h => by cases h; rfl
  | r :: rs, l, h => by
    simp only [decEs] at h
    split at h
    · rename_i e m h1 h2; cases h; rw [List.map_cons, ← decE_eq h1, ← decEs_eq h2]
    · cases h
def decM (q : IntKind) (B : Blk) : Option (Ents × Nat) :=
  match B.rows with
  | [.lit (.int .i64 c), .lit (.int .i64 n), .lit (.int .i64 m)] :: rs => match decEs q rs with
    | some l => if Nat.beq B.sz 3 = true ∧ B.pure = true ∧ 0 ≤ c ∧ n = l.length ∧ m = 1 then some (l, c.toNat) else none
    | none => none
  | _ => none
theorem decM_eq {q : IntKind} {B : Blk} {l : Ents} {c : Nat} (h : decM q B = some (l, c)) : B = mapB q l c := by
  unfold decM at h
  split at h
  · rename_i c' n m rs hr
    split at h
    · rename_i l' hl
      split at h
      · rename_i hc
        cases h
        obtain ⟨h1, h2, h3, h4, h5⟩ := hc
        cases B
        simp only at hr h1 h2
        rw [hr, h2, Nat.eq_of_beq_eq_true h1, decEs_eq hl]
        simp [mapB, Int.toNat_of_nonneg h3, h4, h5]
      · cases h
    · cases h
  · cases h
def mapTy (P : Program) (t : TypeId) : Option (TypeId × IntKind × Value) :=
  match P.underlying t with
  | some (.map kt et) => match P.underlying kt, (P.info? et).bind (·.zero) with
    | some (.int q), some z => some (kt, q, z)
    | _, _ => none
  | _ => none
theorem mapTy_ok {P : Program} {t kt : TypeId} {q : IntKind} {z : Value} (h : mapTy P t = some (kt, q, z)) : ∃ et, MapT P t kt et q z := by
  unfold mapTy at h
  split at h
  · rename_i kt' et h1
    split at h
    · rename_i q' z' h2 h3; cases h; exact ⟨et, h1, h2, h3⟩
    · cases h
  · cases h
def unl : Value → AVal
  | .agg cs => .agg (cs.toList.map .lit)
  | v => .lit v
theorem V_unl {w : World} {G : Nat → Prop} {ρ : Names} {A : Allow} (v : Value) : V w G ρ A (unl v) v := by
  unfold unl
  split
  · rename_i cs
    refine .agg (by simp) fun j u hj => ?_
    rw [List.getElem?_map, Option.map_eq_some_iff] at hj
    obtain ⟨y, hy, rfl⟩ := hj
    rw [Array.getElem?_toList] at hy
    rw [Array.getD_eq_getD_getElem?, hy]
    exact .lit
  · exact .lit
theorem Good.outV {P : Program} {Γ : List (Nat × List AVal)} {o : Oper} {ev : Operand → Option AVal} {get : Nat → Option Blk} {k k' : Nat} {v v' : AVal} {u : List (Nat × Option Blk)} {r : List Nat} (h : Good P Γ o ev get k ⟨v, k', u, r⟩)
    (hv : ∀ w G ρ A cv, V w G ρ A v cv → V w G ρ A v' cv) : Good P Γ o ev get k ⟨v', k', u, r⟩ :=
  ⟨fun w G ρ H A a hr hA hf hrd hop next Q hn => h.ok w G ρ H A a hr hA hf hrd hop next Q fun w' G' ρ' cv hrel hV hst => hn w' G' ρ' cv hrel (hv _ _ _ _ _ hV) hst, h.rds, h.le⟩
def keysOk (q : IntKind) (n : Int) (l : Ents) : Bool := wfK q n && l.all (fun e => wfK q e.1)
def ukB : List Int → Bool
  | [] => true
  | a :: l => l.all (fun b => !(b == a)) && ukB l
theorem ukB_ok : ∀ {l : List Int}, ukB l = true → l.Nodup
  | [], _ => List.nodup_nil
  | a :: l, h => by
    simp only [ukB, Bool.and_eq_true, List.all_eq_true, Bool.not_eq_true', beq_eq_false_iff_ne] at h
    exact List.nodup_cons.2 ⟨fun hm => h.1 a hm rfl, ukB_ok h.2⟩
def keyIn (ev : Operand → Option AVal) (q : IntKind) (x : Operand) : Option Int :=
  match ev x with
  | some (.lit (.int q' n)) => if q' = q then some n else none
  | _ => none
theorem keyIn_ok {ev : Operand → Option AVal} {q : IntKind} {x : Operand} {n : Int} (h : keyIn ev q x = some n) : ev x = some (.lit (.int q n)) := by
  unfold keyIn at h
  split at h
  · rename_i h1
    split at h
    · rename_i h2; cases h; rw [← h2]; exact h1
    · cases h
  · cases h
def mapIn (ev : Operand → Option AVal) (get : Nat → Option Blk) (q : IntKind) (m : Operand) : Option (Nat × Ents × Nat) :=
  match ev m with
  | some (.mp id) => match get id with
    | some B => match decM q B with
      | some (l, c) => some (id, l, c)
      | none => none
    | none => none
  | _ => none
theorem mapIn_ok {ev : Operand → Option AVal} {get : Nat → Option Blk} {q : IntKind} {m : Operand} {id : Nat} {l : Ents} {c : Nat} (h : mapIn ev get q m = some (id, l, c)) : ev m = some (.mp id) ∧ get id = some (mapB q l c) := by
  unfold mapIn at h
  split at h
  · rename_i i h1
    split at h
    · rename_i B h2
      split at h
      · rename_i h3; cases h; exact ⟨h1, by rw [h2, decM_eq h3]⟩
      · cases h
    · cases h
  · cases h
def decI (B : Blk) : Option (Nat × Nat × List Nat × Nat) :=
  match B.rows with
  | [.lit (.int .i64 c), .lit (.int .i64 n), .lit (.int .i64 m)] :: [.mp mid, .lit (.int .i64 s), .lit (.int .i64 z)] :: rs =>
    match rs with
    | [] => if Nat.beq B.sz 3 = true ∧ B.pure = false ∧ 0 ≤ c ∧ n = 0 ∧ m = 2 ∧ 0 ≤ s ∧ z = 0 then some (mid, s.toNat, [], c.toNat) else none
    | [[.lit (.int .i64 y), .lit (.int .i64 z1), .lit (.int .i64 z2)]] => if Nat.beq B.sz 3 = true ∧ B.pure = false ∧ 0 ≤ c ∧ n = 1 ∧ m = 2 ∧ 0 ≤ s ∧ z = 0 ∧ 0 ≤ y ∧ z1 = 0 ∧ z2 = 0 then some (mid, s.toNat, [y.toNat], c.toNat) else none
    | _ => none
  | _ => none
theorem decI_eq {B : Blk} {mid s : Nat} {l : List Nat} {c : Nat} (h : decI B = some (mid, s, l, c)) : B = iterB mid s l c := by
  unfold decI at h
  split at h
  · rename_i c' n m mid' s' z rs hr
    split at h
    · split at h
      · rename_i hc
        cases h
        obtain ⟨h1, h2, h3, h4, h5, h6, h7⟩ := hc
        cases B
        simp only at hr h1 h2
        rw [hr, h2, Nat.eq_of_beq_eq_true h1]
        simp [iterB, Int.toNat_of_nonneg h3, Int.toNat_of_nonneg h6, h4, h5, h7]
      · cases h
    · split at h
      · rename_i hc
        cases h
        obtain ⟨h1, h2, h3, h4, h5, h6, h7, h8, h9, h10⟩ := hc
        cases B
        simp only at hr h1 h2
        rw [hr, h2, Nat.eq_of_beq_eq_true h1]
        simp [iterB, Int.toNat_of_nonneg h3, Int.toNat_of_nonneg h6, Int.toNat_of_nonneg h8, h4, h5, h7, h9, h10]
      · cases h
    · cases h
  · cases h
def mapOp (P : Program) (o : Oper) (ev : Operand → Option AVal) (get : Nat → Option Blk) (k : Nat) : Option Out :=
  match o.op with
  | .makeMap t none => match mapTy P t with
    | some (_, q, _) => some ⟨.mp k, k + 1, [(k, some (mapB q [] 0))], []⟩
    | none => none
  | .lookup t m x true => match mapTy P t with
    | some (_, q, z) => match keyIn ev q x, mapIn ev get q m with
      | some n, some (id, l, _) => match keysOk q n l && ukB (l.map (·.1)) with
        | true => some ⟨.tup [unl ((findM l n).getD z), .lit (.bool (findM l n).isSome)], k, [], [id]⟩
        | false => none
      | _, _ => none
    | none => none
  | .mapUpdate t m x y => match mapTy P t with
    | some (_, q, _) => match keyIn ev q x, mapIn ev get q m, (ev y).bind aggOf with
      | some n, some (id, l, c), some v => match keysOk q n l && l.all (fun e => !(e.1 == n)) with
        | true => some ⟨.junk, k, [(id, some (mapB q (l ++ [(n, v, c)]) (c + 1)))], [id]⟩
        | false => none
      | _, _, _ => none
    | none => none
  | .call { callee := .builtin .delete, args := args, argTypes := ty } => match args.toList, ty.toList with
    | [m, x], [t, kt] => match mapTy P t with
      | some (kt', q, _) => match keyIn ev q x, mapIn ev get q m with
        | some n, some (id, l, c) => match Nat.beq kt kt' && (keysOk q n l && ukB (l.map (·.1))) with
          | true => some ⟨.lit (.tuple #[]), k, [(id, some (mapB q (delM l n) c))], [id]⟩
          | false => none
        | _, _ => none
      | none => none
    | _, _ => none
  | .range t m => match mapTy P t with
    | some (_, q, _) => match mapIn ev get q m with
      | some (id, _, c) => some ⟨.it k, k + 1, [(k, some (iterB id c [] c))], [id]⟩
      | none => none
    | none => none
  | .entry x => match ev x with
    | some (.it it) => match (get it).bind decI with
      | some (mid, _, [s], c0) => match (get mid).bind (decM .i64) with
        | some ([e], c) => match Nat.beq c c0 && Nat.beq e.2.2 s with
          | true => some ⟨.tup [.lit (.int .i64 e.1), .lit e.2.1], k, [], [it, mid]⟩
          | false => none
        | _ => none
      | _ => none
    | _ => none
  | _ => none
theorem keysOk_ok {q : IntKind} {n : Int} {l : Ents} (h : keysOk q n l = true) : wfK q n = true ∧ ∀ e ∈ l, wfK q e.1 = true := by
  simpa [keysOk, List.all_eq_true] using h
section
variable {P : Program} {Γ : List (Nat × List AVal)} {o : Oper} {ev : Operand → Option AVal} {get : Nat → Option Blk} {k : Nat}
theorem mapOp_good {out : Out} (h : mapOp P o ev get k = some out) : Good P Γ o ev get k out := by
  unfold mapOp at h
  split at h
  · rename_i t ho
    split at h
    · rename_i kt q z ht; cases h; exact makeM_good q ho
    · cases h
  · rename_i t m x ho
    split at h
    · rename_i kt q z ht
      obtain ⟨et, hT⟩ := mapTy_ok ht
      split at h
      · rename_i n id l c h1 h2
        split at h
        · rename_i hc
          cases h
          simp only [Bool.and_eq_true] at hc
          obtain ⟨h3, h4⟩ := mapIn_ok h2
          obtain ⟨h5, h6⟩ := keysOk_ok hc.1
          refine (look_good ho hT h3 (keyIn_ok h1) h4 h6 h5 (ukB_ok hc.2)).outV fun w G ρ A cv hV => ?_
          cases hV with
          | tup hl hv =>
            refine .tup hl fun j v hj => ?_
            match j, hj with
            | 0, hj =>
              cases hj
              have := hv 0 _ rfl
              generalize Array.getD _ 0 undef = cv at this ⊢
              cases this
              exact V_unl _
            | 1, hj => cases hj; exact hv 1 _ rfl
            | j + 2, hj => simp at hj
        · cases h
      · cases h
    · cases h
  · rename_i t m x y ho
    split at h
    · rename_i kt q z ht
      obtain ⟨et, hT⟩ := mapTy_ok ht
      split at h
      · rename_i n id l c v h1 h2 h3
        split at h
        · rename_i hc
          cases h
          simp only [Bool.and_eq_true, List.all_eq_true, Bool.not_eq_true', beq_eq_false_iff_ne] at hc
          obtain ⟨h4, h5⟩ := mapIn_ok h2
          obtain ⟨h6, h7⟩ := keysOk_ok hc.1
          obtain ⟨av, h8, h9⟩ := Option.bind_eq_some_iff.1 h3
          exact put_good ho hT h4 (keyIn_ok h1) h8 h9 h5 h7 h6 hc.2
        · cases h
      · cases h
    · cases h
  · rename_i args ty ho
    split at h
    · rename_i m x t kt ha hty
      split at h
      · rename_i kt' q z ht
        obtain ⟨et, hT⟩ := mapTy_ok ht
        split at h
        · rename_i n id l c h1 h2
          split at h
          · rename_i hc
            cases h
            simp only [Bool.and_eq_true] at hc
            obtain ⟨h3, h4⟩ := mapIn_ok h2
            obtain ⟨h5, h6⟩ := keysOk_ok hc.2.1
            obtain rfl := Nat.eq_of_beq_eq_true hc.1
            obtain rfl : args = #[m, x] := Array.ext' ha
            obtain rfl : ty = #[t, kt] := Array.ext' hty
            exact del_good ho hT h3 (keyIn_ok h1) h4 h6 h5 (ukB_ok hc.2.2)
          · cases h
        · cases h
      · cases h
    · cases h
  · rename_i t m ho
    split at h
    · rename_i kt q z ht
      obtain ⟨et, hT⟩ := mapTy_ok ht
      split at h
      · rename_i id l c h2
        cases h
        obtain ⟨h3, h4⟩ := mapIn_ok h2
        exact range_good ho hT h3 h4
      · cases h
    · cases h
  · rename_i x ho
    split at h
    · rename_i it hx
      split at h
      · rename_i mid since s c0 h1
        obtain ⟨B, h2, h3⟩ := Option.bind_eq_some_iff.1 h1
        obtain rfl := decI_eq h3
        split at h
        · rename_i e c h4
          obtain ⟨B', h5, h6⟩ := Option.bind_eq_some_iff.1 h4
          obtain rfl := decM_eq h6
          split at h
          · rename_i hc
            cases h
            simp only [Bool.and_eq_true] at hc
            obtain rfl := Nat.eq_of_beq_eq_true hc.1
            obtain rfl := Nat.eq_of_beq_eq_true hc.2
            exact entry_good (seen := []) ho hx h2 h5 (by simp) (by simp)
          · cases h
        · cases h
      · cases h
    · cases h
  · cases h
def mapNx (o : Oper) (ev : Operand → Option AVal) (get : Nat → Option Blk) (k : Nat) : Option Out :=
  match o.op with
  | .next x false => match ev x with
    | some (.it it) => match (get it).bind decI with
      | some (mid, since, seen, c0) => match (get mid).bind (decM .i64) with
        | some (l, clock) => match l.all (fun e => Nat.blt e.2.2 since) && Nat.ble since c0 with
          | true => match toCome l seen with
            | [] => some ⟨.tup [.lit (.bool false)], k, [], [it, mid]⟩
            | [e] => some ⟨.tup [.lit (.bool true), .lit (.int .i64 e.1), .lit e.2.1], k, [(it, some (iterB mid since (seen ++ [e.2.2]) clock))], [it, mid]⟩
            | _ => none
          | false => none
        | none => none
      | none => none
    | _ => none
  | _ => none
theorem mapNx_good {out : Out} (h : mapNx o ev get k = some out) : ∃ rds, GoodN P Γ o ev get k rds (fun out' => out' = out) := by
  unfold mapNx at h
  split at h
  · rename_i x ho
    split at h
    · rename_i it hx
      split at h
      · rename_i mid since seen c0 h1
        obtain ⟨B, h2, h3⟩ := Option.bind_eq_some_iff.1 h1
        obtain rfl := decI_eq h3
        split at h
        · rename_i l clock h4
          obtain ⟨B', h5, h6⟩ := Option.bind_eq_some_iff.1 h4
          obtain rfl := decM_eq h6
          split at h
          · rename_i hc
            simp only [Bool.and_eq_true, List.all_eq_true, Nat.blt_eq] at hc
            have key := next_good (P := P) (Γ := Γ) (k := k) ho hx h2 h5 hc.1 (Nat.le_of_ble_eq_true hc.2)
            refine ⟨_, ⟨fun w G ρ H A a hr hA hrd hop next Q hN => key.ok w G ρ H A a hr hA hrd hop next Q fun out' ho' => hN out' ?_, key.rds, fun out' ho' => ?_⟩⟩
            · split at h
              · rename_i ht
                cases h
                rcases ho' with ⟨_, rfl⟩ | ⟨e, he, rfl⟩
                · rfl
                · rw [ht] at he; simp at he
              · rename_i e0 ht
                cases h
                rcases ho' with ⟨h7, rfl⟩ | ⟨e, he, rfl⟩
                · rw [ht] at h7; cases h7
                · rw [ht] at he
                  obtain rfl : e = e0 := by simpa using he
                  rfl
              · cases h
            · subst ho'
              split at h
              · cases h; rfl
              · cases h; rfl
              · cases h
          · cases h
        · cases h
      · cases h
    · cases h
  · cases h
end
end Go.AM
end
section
namespace Go.AM
def offRow (id j : Nat) (row : List AVal) : Bool := (row.set j .junk).all (bd0 (offN id))
theorem offRow_get {id j : Nat} {row : List AVal} (h : offRow id j row = true) {c : Nat} {u : AVal} (hc : c ≠ j) (hu : row[c]? = some u) : bd0 (offN id) u = true := by
  have h1 : (row.set j .junk)[c]? = some u := by rw [List.getElem?_set_ne (Ne.symm hc)]; exact hu
  exact List.all_eq_true.1 h u (List.mem_of_getElem? h1)
theorem frz0_off {id : Nat} {B : Blk} {u : AVal} (hu : bd0 (offN id) u = true) : frz0 id B u = u := by
  cases u with
  | ptr i r c => simp only [bd0, offN, decide_eq_true_eq] at hu; simp [frz0, hu]
  | sl i r c => simp only [bd0, offN, decide_eq_true_eq] at hu; simp [frz0, hu]
  | _ => rfl
theorem Mv.frz_row {kb k : Nat} {fr : Fr} {H : Heap} {id s D sz : Nat} {l : List (List AVal)} {row : List AVal} (j : Nat) (v : AVal) (fr1 : Fr) (H1 : Heap) (hne : D ≠ id) (hD : look H D = some ⟨sz, false, [row]⟩) (hj : row[j]? = some (accV id l))
    (hH : accIn H id s l) (hv : VLe (rows s l) v) (hoff : offRow id j row = true) (h1 : keepF fr id fr1) (h2 : keepH H id H1) : Mv kb k fr H k fr1 ((D, ⟨sz, false, [row.set j v]⟩) :: H1) := by
  have hvle : ∀ u u', VLe u u' → VLe u' v → VLe u v := fun u u' a b w G ρ A cv h => b w G ρ A cv (a w G ρ A cv h)
  have hjl := (List.getElem?_eq_some_iff.1 hj).1
  cases l with
  | nil =>
    refine fun hk => Mv.wk ⟨hk, fun t' u hu => ⟨u, (keepF_look h1 t' u hu).1, VLe.refl u⟩, fun i B hB => ?_, .inl rfl⟩ hk
    simp only [look] at hB
    split at hB
    · rename_i he; subst he; cases hB
      refine ⟨_, hD, rfl, fun q row' hq => ?_, fun h => by cases h⟩
      cases q with
      | zero =>
        cases hq
        refine ⟨row, rfl, by simp, fun c u w hu hw => ?_⟩
        by_cases hc : c = j
        · subst hc
          rw [List.getElem?_set_self hjl] at hw
          rw [hj] at hu
          cases hu; cases hw
          exact hvle _ _ (VLe.nil s _) hv
        · rw [List.getElem?_set_ne (Ne.symm hc), hu] at hw; cases hw; exact VLe.refl _
      | succ q => simp at hq
    · exact ⟨B, (keepH_look h2 i B hB).2.1, BLe.refl B⟩
  | cons x r =>
    have h3 := hH (by simp)
    refine Mv.trans (Mv.freeze id h3 rfl) (fun hk => Mv.wk ⟨hk, fun t' u hu => ?_, fun i B hB => ?_, .inl rfl⟩ hk)
    · obtain ⟨h4, h5⟩ := keepF_look h1 t' u hu
      refine ⟨u, ?_, VLe.refl u⟩
      unfold frzF; rw [look_map, h4, Option.map_some, frz_off h5]
    · simp only [look] at hB
      split at hB
      · rename_i he; subst he; cases hB
        refine ⟨⟨sz, false, [row.map (frz0 id ⟨s, true, x :: r⟩)]⟩, by unfold frzH; rw [look_map, look_del, if_neg hne, hD]; rfl, rfl, fun q row' hq => ?_, fun h => by cases h⟩
        cases q with
        | zero =>
          cases hq
          refine ⟨row.map (frz0 id ⟨s, true, x :: r⟩), rfl, by simp, fun c u w hu hw => ?_⟩
          rw [List.getElem?_map] at hu
          by_cases hc : c = j
          · subst hc
            rw [List.getElem?_set_self hjl] at hw
            rw [hj] at hu
            cases hw
            simp only [Option.map_some, accV, frz0, Nat.zero_add, Nat.le_refl, and_self, if_true, Option.some.injEq] at hu
            subst hu
            exact hv
          · rw [List.getElem?_set_ne (Ne.symm hc)] at hw
            rw [hw, Option.map_some, frz0_off (offRow_get hoff hc hw)] at hu
            cases hu; exact VLe.refl _
        | succ q => simp [frzB] at hq
      · obtain ⟨h4, h5, h6⟩ := keepH_look h2 i B hB
        refine ⟨B, ?_, BLe.refl B⟩
        unfold frzH
        rw [look_map, look_del, if_neg h4, h5]
        simp [frzB, h6]
attribute [go_sem] offRow
end Go.AM
end
section
namespace Go.Proofs.T
open Go Go.AM Go.Proofs
set_option maxRecDepth 20000
variable {Γ : List (Nat × List AVal)}
def nmOther : ByteArray := ⟨#[111, 116, 104, 101, 114]⟩
def nmBack : ByteArray := ⟨#[98, 97, 99, 107]⟩
def nmFell : ByteArray := ⟨#[102, 101, 108, 108]⟩
theorem nm17 : AM.Pure Tryz.prog Γ 52 [.lit (.int .u8 17)] (.lit (.string nmOther)) := Pure_ev (k' := 1) 20 rfl rfl (by kernel_rfl)
theorem nm15 : AM.Pure Tryz.prog Γ 52 [.lit (.int .u8 15)] (.lit (.string nmBack)) := Pure_ev (k' := 1) 20 rfl rfl (by kernel_rfl)
theorem nm16 : AM.Pure Tryz.prog Γ 52 [.lit (.int .u8 16)] (.lit (.string nmFell)) := Pure_ev (k' := 1) 20 rfl rfl (by kernel_rfl)
theorem moves_rule (a b : St) : ∀ f ∈ movesL a b, f.r = 15 ∨ f.r = 16 := fun x hx => by
  unfold movesL at hx
  rcases List.mem_append.1 hx with hx | hx
  · obtain ⟨c, hc, hx⟩ := mem_flats.1 hx
    obtain ⟨_, rfl⟩ := mem_iff1.1 hx
    exact .inl rfl
  · obtain ⟨g, hg, hx⟩ := mem_flats.1 hx
    obtain ⟨c, hc, hx⟩ := mem_flats.1 hx
    obtain ⟨_, rfl⟩ := mem_iff1.1 hx
    exact .inr rfl
def zF : Flt := ⟨0, 0, 0⟩
theorem rows_F (l : List Flt) : VLe (rows 3 (l.map Flt.row)) (.rd 3 l.length (fun j => Flt.row (l.getD j zF))) := by
  rw [rows, List.length_map]
  exact VLe.rd fun i hi => by simp [List.getD_eq_getElem?_getD, hi]
theorem Pure_leD {P : Program} {f : FuncId} {args : List AVal} {r r' : AVal} (h : AM.Pure P Γ f args r) (hle : VLe r r') : AM.Pure P Γ f args r' := fun k A hA w G ρ cargs h1 h2 =>
  (h k A hA w G ρ cargs h1 h2).mono fun _ _ ⟨cv, G', ρ', k', r1, H', he, ⟨e1, e2, e3⟩, a, b, c, d⟩ => ⟨cv, G', ρ', k', r', H', he, ⟨e1, rfl, e3⟩, a, b, hle _ _ _ _ _ (e2 ▸ c), d⟩
theorem bStep (a b : St) (hq : PreOk a) (hq' : PreOk b) (hk : Kinds a) (hk' : Kinds b) : AM.Pure Tryz.prog Γ 51 [.agg a.cells, .agg b.cells] (.tup [.rd 3 (stepF2 a b).length (fun j => Flt.row ((stepF2 a b).getD j zF)), .lit (.int .i64 (stepE2 a b))]) :=
  Pure_leD (step a b hq hq' hk hk') (VLe.tups (.cons (rows_F _) (.cons (VLe.refl _) .nil)))
theorem differ0' (k D : Nat) (hD : D < k) (a b : Nat → Int) (n m : Nat) (hm : m = n) (hn : n ≤ 1000) (c1 c2 c3 c4 c5 : AVal) (e1 : ∀ p, bd0 p c1 = true) (e2 : ∀ p, bd0 p c2 = true) (e3 : ∀ p, bd0 p c3 = true) (e4 : ∀ p, bd0 p c4 = true) (e5 : ∀ p, bd0 p c5 = true) (L : List (Int × Int)) (eL : L = flx (difN a b) n) :
    Tr Tryz.prog Γ 53 k [.rd 1 n (fun i => [.lit (.int .i64 (a i))]), .rd 1 m (fun i => [.lit (.int .i64 (b i))]), .fn 54 [.ptr D 0 0]] ([(D, ⟨6, false, [[.lit (.slice none 0 0), c1, c2, c3, c4, c5]]⟩)]) (fun k1 r1 H1 => k1 = k + 1 ∧ r1 = .tup [] ∧ H1 = accH k 2 (L.map vlR) [(D, ⟨6, false, [[accV k (L.map vlR), c1, c2, c3, c4, c5]]⟩)]) := by
  subst hm eL; exact differ0 k D hD a b _ hn c1 c2 c3 c4 c5 e1 e2 e3 e4 e5
theorem differ1' (k D : Nat) (hD : D < k) (a b : Nat → Int) (n m : Nat) (hm : m = n) (hn : n ≤ 1000) (c1 c2 c3 c4 c5 : AVal) (e1 : ∀ p, bd0 p c1 = true) (e2 : ∀ p, bd0 p c2 = true) (e3 : ∀ p, bd0 p c3 = true) (e4 : ∀ p, bd0 p c4 = true) (e5 : ∀ p, bd0 p c5 = true) (L : List (Int × Int)) (eL : L = flx (difN a b) n) :
    Tr Tryz.prog Γ 53 k [.rd 1 n (fun i => [.lit (.int .i64 (a i))]), .rd 1 m (fun i => [.lit (.int .i64 (b i))]), .fn 55 [.ptr D 0 0]] ([(D, ⟨6, false, [[c1, .lit (.slice none 0 0), c2, c3, c4, c5]]⟩)]) (fun k1 r1 H1 => k1 = k + 1 ∧ r1 = .tup [] ∧ H1 = accH k 2 (L.map vlR) [(D, ⟨6, false, [[c1, accV k (L.map vlR), c2, c3, c4, c5]]⟩)]) := by
  subst hm eL; exact differ1 k D hD a b _ hn c1 c2 c3 c4 c5 e1 e2 e3 e4 e5
theorem differ2' (k D : Nat) (hD : D < k) (a b : St) (n m : Nat) (hm : m = n) (hn : n ≤ 1000) (c1 c2 c3 c4 c5 : AVal) (e1 : ∀ p, bd0 p c1 = true) (e2 : ∀ p, bd0 p c2 = true) (e3 : ∀ p, bd0 p c3 = true) (e4 : ∀ p, bd0 p c4 = true) (e5 : ∀ p, bd0 p c5 = true) (L : List (Int × Int)) (eL : L = flx (difG a b) n) :
    Tr Tryz.prog Γ 56 k [.rd 2 n (gf a), .rd 2 m (gf b), .fn 57 [.ptr D 0 0]] ([(D, ⟨6, false, [[c1, c2, .lit (.slice none 0 0), c3, c4, c5]]⟩)]) (fun k1 r1 H1 => k1 = k + 1 ∧ r1 = .tup [] ∧ H1 = accH k 2 (L.map vlR) [(D, ⟨6, false, [[c1, c2, accV k (L.map vlR), c3, c4, c5]]⟩)]) := by
  subst hm eL; exact differ2 k D hD a b _ hn c1 c2 c3 c4 c5 e1 e2 e3 e4 e5
theorem nmAt {F : List Flt} (h : ∀ f ∈ F, f.r = 15 ∨ f.r = 16) {i : Nat} (hi : i < F.length) : ∃ s : ByteArray, (s = nmBack ∨ s = nmFell) ∧ AM.Pure Tryz.prog Γ 52 [.lit (.int .u8 (F.getD i zF).r)] (.lit (.string s)) := by
  have hm : F.getD i zF ∈ F := by rw [List.getD_eq_getElem?_getD, List.getElem?_eq_getElem hi]; exact List.getElem_mem hi
  rcases h _ hm with e | e
  · rw [e]; exact ⟨nmBack, .inl rfl, nm15⟩
  · rw [e]; exact ⟨nmFell, .inr rfl, nm16⟩
theorem btw_other {a b : St} (h1 : ¬ badP a b) (h2 : alB a b a.ng = false) : btw a b = noDl ∧ btwE a b = 351 := by
  unfold btw btwE; simp [h1, h2]
theorem btw_bad {a b : St} (h1 : badP a b) : btw a b = noDl ∧ btwE a b = 350 := by
  unfold btw btwE; simp [h1]
theorem btw_ok {a b : St} (h1 : ¬ badP a b) (h2 : alB a b a.ng = true) : btw a b = btw0 a b ∧ btwE a b = 0 := by
  unfold btw btwE; simp [h1, h2]
theorem noDl_le {x : List AVal} (h : x = noDl.cells) : VLes [.lit (.slice none 0 0), .lit (.slice none 0 0), .lit (.slice none 0 0), .lit (.slice none 0 0), .lit (.slice none 0 0), .lit (.slice none 0 0)] x := by
  subst h
  exact .cons (VLe.nil _ _) (.cons (VLe.nil _ _) (.cons (VLe.nil _ _) (.cons (VLe.nil _ _) (.cons (VLe.nil _ _) (.cons (VLe.nil _ _) .nil)))))
theorem apart1 {loc : Heap} {D id sz : Nat} {l : List (List AVal)} {B B' : Blk} (h1 : AM.look loc D = none) (h2 : AM.look loc id = none) : apartH loc [(D, B)] (accH id sz l [(D, B')]) := fun i hi => by
  by_cases hD : i = D
  · subst hD; exact h1
  by_cases hI : i = id
  · subst hI; exact h2
  exfalso
  rcases hi with h | h
  · simp [keyB, AM.look, Ne.symm hD] at h
  · cases l <;> simp [accH, keyB, AM.look, Ne.symm hD, Ne.symm hI] at h
theorem bd0_rows (p : Nat → Bool) (s : Nat) (l : List (List AVal)) : bd0 p (rows s l) = true := rfl
attribute [go_sem] bd0_rows
theorem m_2 {p : Nat → Bool} {i : Nat} : bd p (.mp i) = p i := rfl
theorem m_3 {p : Nat → Bool} {i : Nat} : bd1 p (.mp i) = p i := rfl
theorem m_5 {a b i : Nat} : sw2 a b (.mp i) = .mp (sw a b i) := rfl
theorem m_9 {p : Nat → Bool} {i : Nat} : bd p (.it i) = p i := rfl
theorem m_12 {a b i : Nat} : sw2 a b (.it i) = .it (sw a b i) := rfl
attribute [go_sem] m_2 m_3 m_5 m_9 m_12
def mapR (l : Ents) (clock : Nat) : List (List AVal) := (mapB .i64 l clock).rows
def iterR (mid since : Nat) (seen : List Nat) (c0 : Nat) : List (List AVal) := (iterB mid since seen c0).rows
theorem iterB_R (mid since : Nat) (seen : List Nat) (c0 : Nat) : iterB mid since seen c0 = ⟨3, false, iterR mid since seen c0⟩ := rfl
theorem all_iterR (p : Nat → Bool) (mid since : Nat) (seen : List Nat) (c0 : Nat) : ((iterR mid since seen c0).all fun row => row.all (bd0 p)) = p mid := by
  have h : (seen.map fun (x : Nat) => [AVal.lit (.int .i64 (x : Int)), .lit (.int .i64 0), .lit (.int .i64 0)]).all (fun row => row.all (bd0 p)) = true := by
    rw [List.all_eq_true]; intro row hr; obtain ⟨x, _, rfl⟩ := List.mem_map.1 hr; rfl
  simp only [iterR, iterB, List.all_cons, List.all_nil, bd0, h, Bool.and_true, Bool.true_and]
theorem sw_iterR (a b mid since : Nat) (seen : List Nat) (c0 : Nat) : ((iterR mid since seen c0).map fun row => row.map (sw0 a b)) = iterR (sw a b mid) since seen c0 := by
  have h : (seen.map fun (x : Nat) => [AVal.lit (.int .i64 (x : Int)), .lit (.int .i64 0), .lit (.int .i64 0)]).map (fun row => row.map (sw0 a b)) = seen.map fun (x : Nat) => [AVal.lit (.int .i64 (x : Int)), .lit (.int .i64 0), .lit (.int .i64 0)] := by
    rw [List.map_map]; rfl
  simp only [iterR, iterB, List.map_cons, List.map_nil, h, sw0]
attribute [go_sem] all_iterR sw_iterR
theorem setH_acc {i id s : Nat} {l : List (List AVal)} {H : Heap} {B : Blk} (h : id ≠ i) : setH (accH id s l H) i B = accH id s l (setH H i B) := by
  cases l with
  | nil => rfl
  | cons x r => simp only [accH, setH]; rw [if_neg h]
attribute [go_sem] setH_acc
def zT : Tk := ⟨0, 0, 0, 0, 0, false, 0, 0⟩
theorem mapTk : MapT Tryz.prog 131 3 89 .i64 (tkV zT) := ⟨Tryz.underlying131, Tryz.underlying3, by kernel_rfl⟩
section
variable {o : Oper} {ev : Operand → Option AVal} {get : Nat → Option Blk} {k id c : Nat} {m x y : Operand} {a b : St} {i : Nat}
theorem put_tk (ha : IdOk a) (hi : i < a.nt) (ho : o.op = .mapUpdate 131 m x y) (hm : ev m = some (.mp id)) (hx : ev x = some (.lit (.int .i64 (a.tsk i).id))) (hy : ev y = some (.agg (tR (a.tsk i)))) (hB : get id = some ⟨3, true, mapR (tEnts a i) i⟩) :
    AM.Good Tryz.prog Γ o ev get k ⟨.junk, k, [(id, some ⟨3, true, mapR (tEnts a (i + 1)) (i + 1)⟩)], [id]⟩ := by
  rw [tEnts_succ]
  exact put_good ho mapTk hm hx hy rfl hB (tEnts_wf ha (by omega)) (wf_i64 (ha.lo i hi) (ha.hi i hi)) (tEnts_new ha.st hi)
def tkAt (a : St) (x : Int) : Tk := match fndT a x with | none => zT | some j => a.tsk j
theorem look_tk (ha : IdOk a) (hb : IdOk b) (hi : i < b.nt) (ho : o.op = .lookup 131 m x true) (hm : ev m = some (.mp id)) (hx : ev x = some (.lit (.int .i64 (b.tsk i).id))) (hB : get id = some ⟨3, true, mapR (lft a b i) c⟩) :
    AM.Good Tryz.prog Γ o ev get k ⟨.tup [.agg (tR (tkAt a (b.tsk i).id)), .lit (.bool (fndT a (b.tsk i).id).isSome)], k, [], [id]⟩ := by
  have h := look_good (P := Tryz.prog) (Γ := Γ) (k := k) ho mapTk hm hx hB (lft_wf ha) (wf_i64 (hb.lo i hi) (hb.hi i hi)) (lft_keys ha.st)
  rw [lft_find ha.st hb.st hi] at h
  have e : (Option.map (fun j => tkV (a.tsk j)) (fndT a (b.tsk i).id)).getD (tkV zT) = tkV (tkAt a (b.tsk i).id) := by
    unfold tkAt; cases fndT a (b.tsk i).id <;> rfl
  have e2 : (Option.map (fun j => tkV (a.tsk j)) (fndT a (b.tsk i).id)).isSome = (fndT a (b.tsk i).id).isSome := by cases fndT a (b.tsk i).id <;> rfl
  rw [e, e2] at h
  refine h.outV fun w G ρ A cv hV => ?_
  cases hV with
  | tup hl hv =>
    refine .tup hl fun j v hj => ?_
    match j, hj with
    | 0, hj =>
      cases hj
      have := hv 0 _ rfl
      generalize Array.getD _ 0 undef = cv at this ⊢
      cases this
      exact V_unl (tkV (tkAt a (b.tsk i).id))
    | 1, hj => cases hj; exact hv 1 _ rfl
    | j + 2, hj => simp at hj
theorem del_tk (ha : IdOk a) (hb : IdOk b) (hi : i < b.nt) (ho : o.op = .call { callee := .builtin .delete, args := #[m, x], argTypes := #[131, 3] }) (hm : ev m = some (.mp id)) (hx : ev x = some (.lit (.int .i64 (b.tsk i).id))) (hB : get id = some ⟨3, true, mapR (lft a b i) c⟩) :
    AM.Good Tryz.prog Γ o ev get k ⟨.lit (.tuple #[]), k, [(id, some ⟨3, true, mapR (lft a b (i + 1)) c⟩)], [id]⟩ := by
  rw [lft_succ]
  exact del_good ho mapTk hm hx hB (lft_wf ha) (wf_i64 (hb.lo i hi) (hb.hi i hi)) (lft_keys ha.st)
end
theorem newTk_len (a b : St) (i : Nat) : (newTk a b i).length ≤ 1 := if1_len _ _
end Go.Proofs.T
end
section
namespace Go.AM
open Go
inductive Fld where
  | one (off g : Nat)
  | sub (off n : Nat) (l : List (Nat × Nat))
def fldOf (P : Program) (f : Field) : Option Fld :=
  match tagOf P f.type with
  | some g => some (.one f.offset g)
  | none => match eqOffs P f.type, (P.info? f.type).map (·.size) with
    | some l, some n => some (.sub f.offset n l)
    | _, _ => none
def eqFld (xs ys : List Value) : List Fld → Option Bool
  | [] => some true
  | .one off g :: r => match xs[off]?, ys[off]? with
    | some a, some b => match eqLit g a b, eqFld xs ys r with
      | some p, some q => some (p && q)
      | _, _ => none
    | _, _ => none
  | .sub off n l :: r => match eqCells ((xs.drop off).take n) ((ys.drop off).take n) l, eqFld xs ys r with
    | some p, some q => some (p && q)
    | _, _ => none
section
variable {P : Program} {Γ : List (Nat × List AVal)} {o : Oper} {ev : Operand → Option AVal} {get : Nat → Option Blk} {k : Nat}
theorem eqOffs_run {t d : Nat} {offs : List (Nat × Nat)} {xs ys : List Value} {p : Bool} (ht : eqOffs P t = some offs) (he : eqCells xs ys offs = some p) (w : World) : (Op.equalIn (d + 2) t (.agg xs.toArray) (.agg ys.toArray)).run P w = .ok p w := by
  unfold eqOffs at ht
  split at ht
  · rename_i fs hu
    split at ht
    · cases ht
    · rename_i hc
      simp only [Bool.or_eq_true, not_or, Bool.not_eq_true] at hc
      obtain ⟨⟨h1, h2⟩, h3⟩ := hc
      have hfs : P.fieldsOf t = fs := by simp [Program.fieldsOf, hu]
      have hnm : ∀ f ∈ fs.toList, f.name ≠ "_" := fun f hf he => by
        have := Array.any_eq_false'.1 h3 f (by simpa using hf)
        simp [he] at this
      have hrun := eqFields_run (P := P) (d := d) xs ys fs.toList offs p hnm ht he w
      have hstr := run_equalIn_struct (P := P) w (d + 1) t xs.toArray ys.toArray (by rw [hfs]; exact hu) h1
      rw [hfs, hrun] at hstr
      exact hstr
  · cases ht
theorem eqOffs_agg {t : Nat} {offs : List (Nat × Nat)} (ht : eqOffs P t = some offs) (w : World) : (isAgg t).run P w = .ok true w := by
  unfold eqOffs at ht
  split at ht
  · rename_i fs hu
    unfold isAgg
    rw [Sem.run_bind, run_underlying hu w]
    rfl
  · cases ht
theorem size_run {t n : Nat} (h : (P.info? t).map (·.size) = some n) (w : World) : (sizeOf t).run P w = .ok n w := by
  simp only [Option.map_eq_some_iff] at h
  obtain ⟨i, h1, h2⟩ := h
  simp [sizeOf, typeInfo, h1, h2]
theorem eqFlds_run {d : Nat} (xs ys : List Value) : ∀ (fs : List Field) (offs : List Fld) (p : Bool), (∀ f ∈ fs, f.name ≠ "_") → (fs.mapM (fldOf P)) = some offs → eqFld xs ys offs = some p →
    ∀ w, (Op.eqFields (d + 2) xs.toArray ys.toArray fs).run P w = .ok p w := by
  intro fs
  induction fs with
  | nil =>
    intro offs p _ hm he w
    simp at hm; subst hm
    simp [eqFld] at he; subst he
    simp [Op.eqFields]
  | cons f fs ih =>
    intro offs p hn hm he w
    rw [List.mapM_cons] at hm
    simp only [Option.bind_eq_bind, Option.bind_eq_some_iff] at hm
    obtain ⟨x, hx, offs', hm', hp⟩ := hm
    cases hp
    unfold fldOf at hx
    split at hx
    · rename_i g hg
      cases hx
      simp only [eqFld] at he
      split at he
      · rename_i a b ha hb
        split at he
        · rename_i p1 q1 h1 h2
          cases he
          have r1 := tag_part hg (cs := xs.toArray) (by rw [List.getElem?_toArray]; exact ha) w
          have r2 := tag_part hg (cs := ys.toArray) (by rw [List.getElem?_toArray]; exact hb) w
          have r3 := eqLit_run (d := d + 1) hg h1 w
          have r4 := ih offs' q1 (fun f hf => hn f (List.mem_cons_of_mem _ hf)) hm' h2 w
          simp only [Op.eqFields, if_pos (hn f (by simp)), Sem.run_bind, r1, r2, r3, Result.andThen_ok]
          cases p1 <;> simp [r4]
        · cases he
      · cases he
    · split at hx
      · rename_i l n hl hs
        cases hx
        simp only [eqFld] at he
        split at he
        · rename_i p1 q1 h1 h2
          cases he
          have e : ∀ zs : List Value, zs.toArray.extract f.offset (f.offset + n) = ((zs.drop f.offset).take n).toArray := fun zs => by
            simp
          have r0 : ∀ zs : List Value, (part f.type zs.toArray f.offset).run P w = .ok (.agg ((zs.drop f.offset).take n).toArray) w := fun zs => by
            unfold part
            rw [Sem.run_bind, eqOffs_agg hl w, Result.andThen_ok]
            simp only [if_true, Sem.run_bind, size_run hs, Result.andThen_ok, e]
            rfl
          have r3 := eqOffs_run (d := d) hl h1 w
          have r4 := ih offs' q1 (fun f hf => hn f (List.mem_cons_of_mem _ hf)) hm' h2 w
          simp only [Op.eqFields, if_pos (hn f (by simp)), Sem.run_bind, r0, r3, Result.andThen_ok]
          cases p1 <;> simp [r4]
        · cases he
      · cases hx
theorem eqS_good {t ty : Nat} {x y : Operand} {xc yc : List AVal} {xs ys : List Value} {fs : Array Field} {offs : List Fld} {p neg : Bool} (ho : o.op = .binOp (if neg then .neq else .eql) t x y ty) (hu : P.underlying t = some (.struct fs))
    (h1 : P.stoodInHeld t = false) (h2 : P.eqGuardType P.depth t = false) (h3 : fs.any (·.name == "_") = false) (hm : fs.toList.mapM (fldOf P) = some offs)
    (hx : ev x = some (.agg xc)) (hy : ev y = some (.agg yc)) (hxs : litsOf xc = some xs) (hys : litsOf yc = some ys) (he : eqFld xs ys offs = some p) : Good P Γ o ev get k ⟨.lit (.bool (if neg then !p else p)), k, [], []⟩ := by
  refine .quiet (OpOk_quiet fun w G ρ H A a hr hrd hop => ⟨.bool (if neg then !p else p), ?_, .lit⟩)
  have hmx : x ∈ o.op.operands := by cases neg <;> simp [ho, Op.operands]
  have hmy : y ∈ o.op.operands := by cases neg <;> simp [ho, Op.operands]
  have ex : a.eval x = .agg xs.toArray := toVal_V (hop x hmx _ hx) (by simp [toVal, hxs])
  have ey : a.eval y = .agg ys.toArray := toVal_V (hop y hmy _ hy) (by simp [toVal, hys])
  have hfs : P.fieldsOf t = fs := by simp [Program.fieldsOf, hu]
  have hnm : ∀ f ∈ fs.toList, f.name ≠ "_" := fun f hf he => by
    have := Array.any_eq_false'.1 h3 f (by simpa using hf)
    simp [he] at this
  have hrun := eqFlds_run (P := P) (d := 9997) xs ys fs.toList offs p hnm hm he w
  have hstr := run_equalIn_struct (P := P) w 9999 t xs.toArray ys.toArray (by rw [hfs]; exact hu) h1
  rw [hfs, hrun] at hstr
  have hg := fun op => run_eqGuard_agg (P := P) w op t x y xs.toArray ys.toArray h2
  cases neg
  · simp only [execOp, ho, ex, ey, Bool.false_eq_true, if_false, Sem.run_bind, hg, Result.andThen_ok, run_eql_struct, hstr, Sem.run_pure]
  · simp only [execOp, ho, ex, ey, if_true, Sem.run_bind, hg, Result.andThen_ok, run_neq_struct, hstr, Sem.run_pure]
end
end Go.AM
end
section
namespace Go.Proofs.T
open Go Go.AM Go.Proofs
set_option maxRecDepth 20000
variable {Γ : List (Nat × List AVal)}
attribute [local irreducible] putO del
def eqL (n m : Nat) (c : Nat → Bool) : Bool := decide (n = m) && !(anyB (fun i => !(c i)) n)
theorem eqL_no {n m : Nat} {c : Nat → Bool} (h : ¬ n = m) : eqL n m c = false := by unfold eqL; rw [decide_eq_false h]; rfl
theorem eqL_at {n m : Nat} {c : Nat → Bool} {i : Nat} (hi : i < n) (h : c i = false) : eqL n m c = false := by
  unfold eqL; rw [anyB_true (i := i) (by rw [h]; rfl) hi, Bool.not_true, Bool.and_false]
theorem eqL_yes {n m : Nat} {c : Nat → Bool} (h : n = m) (hc : ∀ i, i < n → c i = true) : eqL n m c = true := by
  unfold eqL; rw [decide_eq_true h, anyB_false (fun i hi => by rw [hc i hi]; rfl)]; rfl
def cV (x y : Int × Int) : Bool := x.1 == y.1 && x.2 == y.2
def cT (x y : Tk) : Bool := x.id == y.id && (x.group == y.group && (x.weight == y.weight && (x.cpu == y.cpu && (x.mask == y.mask && (x.ready == y.ready && (x.v == y.v && x.r == y.r))))))
def cP (x y : Int × Int × Sp) : Bool := x.1 == y.1 && (x.2.1 == y.2.1 && (x.2.2.v == y.2.2.v && (x.2.2.r == y.2.2.r && x.2.2.floor == y.2.2.floor)))
theorem cV_iff {x y : Int × Int} : cV x y = true ↔ x = y := by
  obtain ⟨a, b⟩ := x; obtain ⟨c, d⟩ := y; simp [cV]
theorem cT_iff {x y : Tk} : cT x y = true ↔ x = y := by
  cases x; cases y; simp [cT]
theorem cP_iff {x y : Int × Int × Sp} : cP x y = true ↔ x = y := by
  obtain ⟨a, b, ⟨v, r, f⟩⟩ := x; obtain ⟨a', b', ⟨v', r', f'⟩⟩ := y; simp [cP]
theorem list_i (n m : Nat) (hn : n ≤ 100000) (hm : m ≤ 100000) (f g : Nat → Int) : AM.Pure Tryz.prog Γ 72 [.rd 1 n (fun i => [.lit (.int .i64 (f i))]), .rd 1 m (fun i => [.lit (.int .i64 (g i))])] (.lit (.bool (eqL n m (fun i => f i == g i)))) := by
  refine Pure_at Tryz.func72 rfl 26 rfl (Nat.le_of_ble_eq_true rfl) rfl fun k => ?_
  obtain ⟨E, eE⟩ : ∃ E, E = eqL n m (fun i => f i == g i) := ⟨_, rfl⟩
  rw [← eE]
  have kp : Kp [0,1,4,5,10,12,13,14,24] (fun i => i - k) := kpI
  refine wl ?_ <;> and_intros <;> first | exact hdT | (apply zM; (repeat intro ht); apply zM; (repeat intro hg); apply zM)
  · refine C_ret rfl ⟨_, rfl, VLe.of_eq ?_⟩
    rw [eE, eqL_no (by omega)]
  refine M_forO (X := Nat) rfl [0,1,4,5,10,12,13,14,24] k (fun i => [(13, .lit (.int .i64 (i : Int)))]) (fun i => []) (fun i => i ≤ n ∧ ∀ j, j < i → (f j == g j) = true) (fun i => n - i) 0 ?_ ⟨Nat.zero_le _, fun j hj => absurd hj (Nat.not_lt_zero _)⟩ ?_
  · refine rR ?_ <;> first | exact hdT | apply zN
    exact wkF
  rintro i ⟨hi, hall⟩
  refine rR ?_ <;> first | exact hdT | apply zN
  refine wl ?_ <;> and_intros <;> first | exact hdT | (apply zM; (repeat intro ht); apply zM; (repeat intro hg); apply zM)
  · refine C_ret rfl ⟨_, rfl, VLe.of_eq ?_⟩
    rw [eE, eqL_at (i := i) (by omega) (by first | (rw [Bool.eq_false_iff]; simp at ht ⊢; omega) | (simpa using ht))]
  · refine ⟨i + 1, ⟨by omega, fun j hj => ?_⟩, by omega, ?_⟩
    · by_cases he : j = i
      · subst he; first | (simp; omega) | (simpa using ht)
      · exact hall j (by omega)
    · exact wkF
  · refine C_ret rfl ⟨_, rfl, VLe.of_eq ?_⟩
    rw [eE, eqL_yes (by omega) (fun j hj => hall j (by omega))]
attribute [local go_sem] vlR tR pR
theorem list_v (n m : Nat) (hn : n ≤ 100000) (hm : m ≤ 100000) (f g : Nat → Int × Int) : AM.Pure Tryz.prog Γ 71 [.rd 2 n (fun i => vlR (f i)), .rd 2 m (fun i => vlR (g i))] (.lit (.bool (eqL n m (fun i => cV (f i) (g i))))) := by
  refine Pure_at Tryz.func71 rfl 26 rfl (Nat.le_of_ble_eq_true rfl) rfl fun k => ?_
  obtain ⟨E, eE⟩ : ∃ E, E = eqL n m (fun i => cV (f i) (g i)) := ⟨_, rfl⟩
  rw [← eE]
  have kp : Kp [0,1,4,5,10,12,13,14,24] (fun i => i - k) := kpI
  refine wl ?_ <;> and_intros <;> first | exact hdT | (apply zM; (repeat intro ht); apply zM; (repeat intro hg); apply zM)
  · refine C_ret rfl ⟨_, rfl, VLe.of_eq ?_⟩
    rw [eE, eqL_no (by omega)]
  refine M_forO (X := Nat) rfl [0,1,4,5,10,12,13,14,24] k (fun i => [(13, .lit (.int .i64 (i : Int)))]) (fun i => []) (fun i => i ≤ n ∧ ∀ j, j < i → (cV (f j) (g j)) = true) (fun i => n - i) 0 ?_ ⟨Nat.zero_le _, fun j hj => absurd hj (Nat.not_lt_zero _)⟩ ?_
  · refine rR ?_ <;> first | exact hdT | apply zN
    exact wkF
  rintro i ⟨hi, hall⟩
  refine rR ?_ <;> first | exact hdT | apply zN
  refine wl ?_ <;> and_intros <;> first | exact hdT | (apply zM; (repeat intro ht); apply zM; (repeat intro hg); apply zM)
  · refine C_ret rfl ⟨_, rfl, VLe.of_eq ?_⟩
    rw [eE, eqL_at (i := i) (by omega) (by first | (rw [Bool.eq_false_iff]; simp [cV] at ht ⊢; omega) | (simpa [cV] using ht))]
  · refine ⟨i + 1, ⟨by omega, fun j hj => ?_⟩, by omega, ?_⟩
    · by_cases he : j = i
      · subst he; first | (simp [cV]; omega) | (simpa [cV] using ht)
      · exact hall j (by omega)
    · exact wkF
  · refine C_ret rfl ⟨_, rfl, VLe.of_eq ?_⟩
    rw [eE, eqL_yes (by omega) (fun j hj => hall j (by omega))]
set_option maxHeartbeats 1000000 in
theorem list_t (n m : Nat) (hn : n ≤ 100000) (hm : m ≤ 100000) (f g : Nat → Tk) : AM.Pure Tryz.prog Γ 73 [.rd 8 n (fun i => tR (f i)), .rd 8 m (fun i => tR (g i))] (.lit (.bool (eqL n m (fun i => cT (f i) (g i))))) := by
  refine Pure_at Tryz.func73 rfl 26 rfl (Nat.le_of_ble_eq_true rfl) rfl fun k => ?_
  obtain ⟨E, eE⟩ : ∃ E, E = eqL n m (fun i => cT (f i) (g i)) := ⟨_, rfl⟩
  rw [← eE]
  have kp : Kp [0,1,4,5,10,12,13,14,24] (fun i => i - k) := kpI
  refine wl ?_ <;> and_intros <;> first | exact hdT | (apply zM; (repeat intro ht); apply zM; (repeat intro hg); apply zM)
  · refine C_ret rfl ⟨_, rfl, VLe.of_eq ?_⟩
    rw [eE, eqL_no (by omega)]
  refine M_forO (X := Nat) rfl [0,1,4,5,10,12,13,14,24] k (fun i => [(13, .lit (.int .i64 (i : Int)))]) (fun i => []) (fun i => i ≤ n ∧ ∀ j, j < i → (cT (f j) (g j)) = true) (fun i => n - i) 0 ?_ ⟨Nat.zero_le _, fun j hj => absurd hj (Nat.not_lt_zero _)⟩ ?_
  · refine rR ?_ <;> first | exact hdT | apply zN
    exact wkF
  rintro i ⟨hi, hall⟩
  refine rR ?_ <;> first | exact hdT | apply zN
  refine wl ?_ <;> and_intros <;> first | exact hdT | (apply zM; (repeat intro ht); apply zM; (repeat intro hg); apply zM)
  · refine C_ret rfl ⟨_, rfl, VLe.of_eq ?_⟩
    rw [eE, eqL_at (i := i) (by omega) (by first | (rw [Bool.eq_false_iff]; simp [cT] at ht ⊢; omega) | (simpa [cT] using ht))]
  · refine ⟨i + 1, ⟨by omega, fun j hj => ?_⟩, by omega, ?_⟩
    · by_cases he : j = i
      · subst he; first | (simp [cT]; omega) | (simpa [cT] using ht)
      · exact hall j (by omega)
    · exact wkF
  · refine C_ret rfl ⟨_, rfl, VLe.of_eq ?_⟩
    rw [eE, eqL_yes (by omega) (fun j hj => hall j (by omega))]
def eP (x y : Int × Int × Sp) : Bool := x.1 == y.1 && (x.2.1 == y.2.1 && ((x.2.2.v == y.2.2.v && (x.2.2.r == y.2.2.r && (x.2.2.floor == y.2.2.floor && true))) && true))
theorem eP_cP (x y : Int × Int × Sp) : eP x y = cP x y := by simp [eP, cP]
theorem place_ne {o : Oper} {ev : Operand → Option AVal} {get : Nat → Option Blk} {k ty : Nat} {x y : Operand} {u v : Int × Int × Sp} (ho : o.op = .binOp .neq 93 x y ty) (hx : ev x = some (.agg (pR u))) (hy : ev y = some (.agg (pR v))) :
    AM.Good Tryz.prog Γ o ev get k ⟨.lit (.bool (!(cP u v))), k, [], []⟩ := by
  rw [← eP_cP]
  exact eqS_good (neg := true) (offs := [.one 0 0, .one 1 0, .sub 2 3 [(0, 0), (1, 0), (2, 0)]]) ho Tryz.underlying93 (by kernel_rfl) (by kernel_rfl) (by kernel_rfl) (by kernel_rfl) hx hy rfl rfl rfl
theorem list_p (n m : Nat) (hn : n ≤ 100000) (hm : m ≤ 100000) (f g : Nat → Int × Int × Sp) : AM.Pure Tryz.prog Γ 74 [.rd 5 n (fun i => pR (f i)), .rd 5 m (fun i => pR (g i))] (.lit (.bool (eqL n m (fun i => cP (f i) (g i))))) := by
  refine Pure_at Tryz.func74 rfl 26 rfl (Nat.le_of_ble_eq_true rfl) rfl fun k => ?_
  obtain ⟨E, eE⟩ : ∃ E, E = eqL n m (fun i => cP (f i) (g i)) := ⟨_, rfl⟩
  rw [← eE]
  have kp : Kp [0,1,4,5,10,12,13,14,24] (fun i => i - k) := kpI
  refine wl ?_ <;> and_intros <;> first | exact hdT | (apply zM; (repeat intro ht); apply zM; (repeat intro hg); apply zM)
  · refine C_ret rfl ⟨_, rfl, VLe.of_eq ?_⟩
    rw [eE, eqL_no (by omega)]
  refine M_forO (X := Nat) rfl [0,1,4,5,10,12,13,14,24] k (fun i => [(13, .lit (.int .i64 (i : Int)))]) (fun i => []) (fun i => i ≤ n ∧ ∀ j, j < i → (cP (f j) (g j)) = true) (fun i => n - i) 0 ?_ ⟨Nat.zero_le _, fun j hj => absurd hj (Nat.not_lt_zero _)⟩ ?_
  · refine rR ?_ <;> first | exact hdT | apply zN
    exact wkF
  rintro i ⟨hi, hall⟩
  refine rR ?_ <;> first | exact hdT | apply zN
  obtain ⟨z, ez⟩ : ∃ z, z = cP (f i) (g i) := ⟨_, rfl⟩
  refine C_seq rfl ?_; (refine S_reg0 rfl [0,1,4,5,10,12,13,14,24] rfl rfl (fun K hK => ?_)); simp -dsimp -implicitDefEqProofs only [go_sem, eq_self, ↓reduceIte]; (refine hK _ _ _ _ (fun hx => ?_)); clear hx hK; simp -dsimp -implicitDefEqProofs only [go_sem, eq_self, ↓reduceIte]; clear K
  refine C_seq rfl ?_
  refine C_cond rfl _ rfl (fun ht => ?_) (fun ht => ?_)
  · simp only [nf] at ht
    refine C_skip rfl ?_
    refine rR ?_ <;> first | exact hdT | apply zN
    refine C_seq rfl ?_
    refine C_block rfl ?_
    refine C_seq rfl ?_; (refine S_reg0 rfl [0,1,4,5,10,12,13,14,24] rfl rfl (fun K hK => ?_)); simp -dsimp -implicitDefEqProofs only [go_sem, eq_self, ↓reduceIte]; (refine hK _ _ _ _ (fun hx => ?_)); clear hx hK; simp -dsimp -implicitDefEqProofs only [go_sem, eq_self, ↓reduceIte]; clear K
    refine C_seq rfl ?_
    refine dl [.raw (some 24) ⟨.lit (.bool (!z)), k, [], []⟩] ?_ <;> and_intros <;> first | exact hdT | (apply zM; (repeat intro ht); apply zM; (repeat intro hg); apply zM)
    · rw [ez]; exact place_ne rfl rfl rfl
    refine wl ?_ <;> and_intros <;> first | exact hdT | (apply zM; (repeat intro ht); apply zM; (repeat intro hg); apply zM)
    · refine C_ret rfl ⟨_, rfl, VLe.of_eq ?_⟩
      rw [eE, eqL_at (i := i) (by omega) (by rw [← ez]; simp_all)]
    · refine ⟨i + 1, ⟨by omega, fun j hj => ?_⟩, by omega, ?_⟩
      · by_cases he : j = i
        · subst he; rw [← ez]; simp_all
        · exact hall j (by omega)
      · exact wkF
  · simp only [nf] at ht
    refine C_exit rfl ?_
    refine rR ?_ <;> first | exact hdT | apply zN
    refine wl ?_ <;> and_intros <;> first | exact hdT | (apply zM; (repeat intro ht); apply zM; (repeat intro hg); apply zM)
    refine C_ret rfl ⟨_, rfl, VLe.of_eq ?_⟩
    rw [eE, eqL_yes (by omega) (fun j hj => hall j (by omega))]
attribute [-go_sem] vlR tR pR
structure DE where
  (n0 n1 n2 n3 n4 n5 : Nat)
  (ck cu wg : Nat → Int × Int)
  (gn : Nat → Int)
  (tk : Nat → Tk)
  (sp : Nat → Int × Int × Sp)
def DE.f0 (d : DE) (i : Nat) : List AVal := [.lit (.int .i64 (d.ck i).1), .lit (.int .i64 (d.ck i).2)]
def DE.f1 (d : DE) (i : Nat) : List AVal := [.lit (.int .i64 (d.cu i).1), .lit (.int .i64 (d.cu i).2)]
def DE.f2 (d : DE) (i : Nat) : List AVal := [.lit (.int .i64 (d.wg i).1), .lit (.int .i64 (d.wg i).2)]
def DE.f3 (d : DE) (i : Nat) : List AVal := [.lit (.int .i64 (d.gn i))]
def DE.f4 (d : DE) (i : Nat) : List AVal := [.lit (.int .i64 (d.tk i).id), .lit (.int .i64 (d.tk i).group), .lit (.int .i64 (d.tk i).weight), .lit (.int .i64 (d.tk i).cpu), .lit (.int .u64 (d.tk i).mask), .lit (.bool (d.tk i).ready), .lit (.int .u64 (d.tk i).v), .lit (.int .u32 (d.tk i).r)]
def DE.f5 (d : DE) (i : Nat) : List AVal := [.lit (.int .i64 (d.sp i).1), .lit (.int .i64 (d.sp i).2.1), .lit (.int .u64 (d.sp i).2.2.v), .lit (.int .u32 (d.sp i).2.2.r), .lit (.int .u64 (d.sp i).2.2.floor)]
attribute [go_sem] DE.f0 DE.f1 DE.f2 DE.f3 DE.f4 DE.f5
def DE.cells (d : DE) : List AVal := [.rd 2 d.n0 d.f0, .rd 2 d.n1 d.f1, .rd 2 d.n2 d.f2, .rd 1 d.n3 d.f3, .rd 8 d.n4 d.f4, .rd 5 d.n5 d.f5]
def DE.size (d : DE) : Nat := d.n0 + d.n1 + d.n2 + d.n3 + d.n4 + d.n5
attribute [go_sem] DE.cells
def eqD (d e : DE) : Bool := eqL d.n0 e.n0 (fun i => cV (d.ck i) (e.ck i)) && (eqL d.n1 e.n1 (fun i => cV (d.cu i) (e.cu i)) && (eqL d.n2 e.n2 (fun i => cV (d.wg i) (e.wg i)) && (eqL d.n3 e.n3 (fun i => d.gn i == e.gn i) && (eqL d.n4 e.n4 (fun i => cT (d.tk i) (e.tk i)) && eqL d.n5 e.n5 (fun i => cP (d.sp i) (e.sp i))))))
theorem equal_d (d e : DE) (hd : d.size ≤ 100000) (he : e.size ≤ 100000) : AM.Pure Tryz.prog Γ 23 [.agg d.cells, .agg e.cells] (.lit (.bool (eqD d e))) := by
  unfold DE.size at hd he
  refine Pure_at Tryz.func23 rfl 45 rfl (Nat.le_of_ble_eq_true rfl) rfl fun k => ?_
  obtain ⟨E, eE⟩ : ∃ E, E = eqD d e := ⟨_, rfl⟩
  rw [← eE]
  obtain ⟨z0, h0⟩ : ∃ z, z = eqL d.n0 e.n0 (fun i => cV (d.ck i) (e.ck i)) := ⟨_, rfl⟩
  obtain ⟨z1, h1⟩ : ∃ z, z = eqL d.n1 e.n1 (fun i => cV (d.cu i) (e.cu i)) := ⟨_, rfl⟩
  obtain ⟨z2, h2⟩ : ∃ z, z = eqL d.n2 e.n2 (fun i => cV (d.wg i) (e.wg i)) := ⟨_, rfl⟩
  obtain ⟨z3, h3⟩ : ∃ z, z = eqL d.n3 e.n3 (fun i => d.gn i == e.gn i) := ⟨_, rfl⟩
  obtain ⟨z4, h4⟩ : ∃ z, z = eqL d.n4 e.n4 (fun i => cT (d.tk i) (e.tk i)) := ⟨_, rfl⟩
  obtain ⟨z5, h5⟩ : ∃ z, z = eqL d.n5 e.n5 (fun i => cP (d.sp i) (e.sp i)) := ⟨_, rfl⟩
  rw [eqD, ← h0, ← h1, ← h2, ← h3, ← h4, ← h5] at eE
  have kp : Kp [0,1,2,3,4] (fun i => i - k) := kpI
  refine wl ?_ <;> and_intros <;> first | exact hdT | (apply zM; (repeat intro ht); apply zM; (repeat intro hg); apply zM)
  refine cl [.ret (.lit (.bool z0)), .ret (.lit (.bool z1)), .ret (.lit (.bool z2)), .ret (.lit (.bool z3)), .ret (.lit (.bool z4)), .ret (.lit (.bool z5))] ?_ <;> and_intros <;> first | exact hdT | (apply zM; (repeat intro ht); apply zM; (repeat intro hg); apply zM)
  all_goals (first | (rw [h0]; exact list_v d.n0 e.n0 (by omega) (by omega) d.ck e.ck) | (rw [h1]; exact list_v d.n1 e.n1 (by omega) (by omega) d.cu e.cu) | (rw [h2]; exact list_v d.n2 e.n2 (by omega) (by omega) d.wg e.wg) | (rw [h3]; exact list_i d.n3 e.n3 (by omega) (by omega) d.gn e.gn) | (rw [h4]; exact list_t d.n4 e.n4 (by omega) (by omega) d.tk e.tk) | (rw [h5]; exact list_p d.n5 e.n5 (by omega) (by omega) d.sp e.sp) | skip)
  all_goals (refine C_ret rfl ⟨_, rfl, VLe.of_eq ?_⟩; rw [eE]; simp_all)
end Go.Proofs.T
end
section
namespace Go.Proofs.T
open Go Go.AM Go.Proofs
set_option maxRecDepth 20000
variable {Γ : List (Nat × List AVal)}
attribute [local irreducible] putO del
attribute [local go_sem] tR
def fnd (t : Nat → Tk) (n : Nat) (x : Int) : Option Nat := f0 (fun j => (t j).id == x) n
def fndK (t : Nat → Tk) (n : Nat) (x : Int) : Tk := match fnd t n x with | none => zT | some j => t j
theorem fnd_none {t : Nat → Tk} {n : Nat} {x : Int} (h : ∀ j, j < n → (t j).id ≠ x) : fnd t n x = none := by
  unfold fnd
  induction n with
  | zero => rfl
  | succ n ih =>
    rw [f0, ih (fun j hj => h j (by omega))]
    simp only
    rw [if_neg (by simpa using h n (by omega))]
theorem fnd_some {t : Nat → Tk} {n : Nat} {x : Int} {i : Nat} (hi : i < n) (h : ∀ j, j < i → (t j).id ≠ x) (he : (t i).id = x) : fnd t n x = some i := by
  unfold fnd
  induction n with
  | zero => omega
  | succ n ih =>
    rw [f0]
    by_cases hin : i = n
    · subst hin
      have : f0 (fun j => (t j).id == x) i = none := fnd_none h
      rw [this]; simp [he]
    · rw [ih (by omega)]
theorem fnd_any {t : Nat → Tk} {n : Nat} {x : Int} : (fnd t n x).isSome = anyB (fun j => (t j).id == x) n := by
  unfold fnd
  induction n with
  | zero => rfl
  | succ n ih =>
    rw [f0, anyB, ← ih]
    cases f0 (fun j => (t j).id == x) n with
    | some j => rfl
    | none => simp only [Option.isSome_none, Bool.false_or]; split <;> simp_all
theorem find_r (n : Nat) (hn : n ≤ 100000) (t : Nat → Tk) (x : Int) : AM.Pure Tryz.prog Γ 50 [.rd 8 n (fun i => tR (t i)), .lit (.int .i64 x)] (.tup [.agg (tR (fndK t n x)), .lit (.bool (fnd t n x).isSome)]) := by
  refine Pure_at Tryz.func50 rfl 25 rfl (Nat.le_of_ble_eq_true rfl) rfl fun k => ?_
  have kp : Kp [0,1,4,5,6,10,19] (fun i => i - k) := kpI
  refine wl ?_ <;> and_intros <;> first | exact hdT | (apply zM; (repeat intro ht); apply zM; (repeat intro hg); apply zM)
  refine M_forO (X := Nat) rfl [0,1,4,5,6,10,19] (k + 1) (fun i => [(6, .lit (.int .i64 (i : Int)))]) (fun i => [(k, ⟨8, true, [[.lit (.int .i64 0), .lit (.int .i64 0), .lit (.int .i64 0), .lit (.int .i64 0), .lit (.int .u64 0), .lit (.bool false), .lit (.int .u64 0), .lit (.int .u32 0)]]⟩)]) (fun i => i ≤ n ∧ ∀ j, j < i → (t j).id ≠ x) (fun i => n - i) 0 ?_ ⟨Nat.zero_le _, fun j hj => absurd hj (Nat.not_lt_zero _)⟩ ?_
  · refine rR ?_ <;> first | exact hdT | apply zN
    exact wkF
  rintro i ⟨hi, hall⟩
  refine rR ?_ <;> first | exact hdT | apply zN
  refine wl ?_ <;> and_intros <;> first | exact hdT | (apply zM; (repeat intro ht); apply zM; (repeat intro hg); apply zM)
  · have uU := Go.AM.uU; refine cR ?_; apply zN
    have h := fnd_some (t := t) (n := n) (x := x) (by omega) hall (by assumption)
    rw [fndK, h]
    exact VLe.refl _
  · refine ⟨i + 1, ⟨by omega, fun j hj => ?_⟩, by omega, ?_⟩
    · by_cases he : j = i
      · subst he; assumption
      · exact hall j (by omega)
    · exact wkF
  · have hin : i = n := by omega
    subst hin
    have uU := Go.AM.uU; refine cR ?_; apply zN
    rw [fndK, fnd_none hall]
    exact VLe.refl _
end Go.Proofs.T
end
section
namespace Go.Proofs.T
open Go Go.AM Go.Proofs
set_option maxRecDepth 20000
variable {Γ : List (Nat × List AVal)}
attribute [local irreducible] putO del
theorem keepH_acc {H r : Heap} {id j s : Nat} {l : List (List AVal)} (h : j ≠ id) : keepH H id (accH j s l r) = (accIn H j s l ∧ keepH H id r) := by
  cases l with
  | nil => simp [accH, accIn]
  | cons x l => simp [accH, keepH, accIn, h]
attribute [go_sem] keepH_acc
set_option maxHeartbeats 4000000 in
theorem rb1 (a b : St) (hnk : a.nk ≤ 1000) (gnk : b.nk = a.nk) (gu : a.nu = a.nk) (gu' : b.nu = a.nk) (k : Nat) (Q : AQ) (n0 n1 : Nat) (f0 f1 : Nat → List AVal) (e0 : rows 2 ((flx (difN a.clk b.clk) a.nk).map vlR) = .rd 2 n0 f0) (e1 : rows 2 ((flx (difN a.cur b.cur) a.nk).map vlR) = .rd 2 n1 f1)
    (hrest : W Tryz.prog Γ 240 k (cat (bodyOf Tryz.f17) [1, 1, 1, 1, 1, 1]) Q (k + 6) [(8, .ptr (k + 3) 0 0), (5, .lit (.int .i64 0)), (4, .ptr (k + 2) 0 0), (3, .ptr (k + 1) 0 0), (2, .ptr k 0 0)] [(k + 2, ⟨6, true, [[.lit (.slice none 0 0), .lit (.slice none 0 0), .lit (.slice none 0 0), .lit (.slice none 0 0), .lit (.slice none 0 0), .lit (.slice none 0 0)]]⟩), (k + 1, ⟨7, true, [b.cells]⟩), (k, ⟨7, true, [a.cells]⟩), (k + 3, ⟨6, false, [[.rd 2 n0 f0, .rd 2 n1 f1, .lit (.slice none 0 0), .lit (.slice none 0 0), .lit (.slice none 0 0), .lit (.slice none 0 0)]]⟩)]) :
    W Tryz.prog Γ 240 k (cat (bodyOf Tryz.f17) [0, 1, 0, 1, 1, 1, 1, 1]) (blockQ 0 (thenQ (W Tryz.prog Γ 240 k (cat (bodyOf Tryz.f17) [1, 1, 1, 1, 1, 1]) Q) Q)) (k + 4) [(9, .lit (.int .i64 0)), (8, .ptr (k + 3) 0 0), (5, .lit (.int .i64 0)), (4, .ptr (k + 2) 0 0), (3, .ptr (k + 1) 0 0), (2, .ptr k 0 0)] [(k + 2, ⟨6, true, [[.lit (.slice none 0 0), .lit (.slice none 0 0), .lit (.slice none 0 0), .lit (.slice none 0 0), .lit (.slice none 0 0), .lit (.slice none 0 0)]]⟩), (k + 1, ⟨7, true, [b.cells]⟩), (k, ⟨7, true, [a.cells]⟩), (k + 3, ⟨6, true, [[.lit (.slice none 0 0), .lit (.slice none 0 0), .lit (.slice none 0 0), .lit (.slice none 0 0), .lit (.slice none 0 0), .lit (.slice none 0 0)]]⟩)] := by
  refine W_mv (Mv.impure (k + 3) (by simp -dsimp -implicitDefEqProofs only [go_sem, eq_self, ↓reduceIte]; rfl)) ?_
  refine rR ?_ <;> first | exact hdT | apply zN
  refine M_forO (X := Nat) rfl [0,1,2,3,4,5,6,7,8,9,10,11,12,14,15,16,17,25,36,42,55,78,95,112,131,150,171,187,203,228] (k + 6) (fun i => [(9, .lit (.int .i64 (i : Int)))]) (fun i => accH (k + 4) 2 ((flx (difN a.clk b.clk) i).map vlR) (accH (k + 5) 2 ((flx (difN a.cur b.cur) i).map vlR) [(k + 2, ⟨6, true, [[.lit (.slice none 0 0), .lit (.slice none 0 0), .lit (.slice none 0 0), .lit (.slice none 0 0), .lit (.slice none 0 0), .lit (.slice none 0 0)]]⟩), (k + 1, ⟨7, true, [b.cells]⟩), (k, ⟨7, true, [a.cells]⟩), (k + 3, ⟨6, false, [[accV (k + 4) ((flx (difN a.clk b.clk) i).map vlR), accV (k + 5) ((flx (difN a.cur b.cur) i).map vlR), .lit (.slice none 0 0), .lit (.slice none 0 0), .lit (.slice none 0 0), .lit (.slice none 0 0)]]⟩)])) (fun i => i ≤ a.nk) (fun i => a.nk - i) 0 ?_ (Nat.zero_le _) ?_
  · rw [flx_zero, flx_zero, List.map_nil]
    refine rR ?_ <;> first | exact hdT | apply zN
    exact wkF
  intro i hi
  have hf0 := flx_len (difN_len a.clk b.clk) i
  have hf1 := flx_len (difN_len a.cur b.cur) i
  obtain ⟨A, eA, hA⟩ : ∃ x, x = ((flx (difN a.clk b.clk) i).map vlR) ∧ x.length ≤ i := ⟨_, rfl, by simp; omega⟩
  obtain ⟨B, eB, hB⟩ : ∃ x, x = ((flx (difN a.cur b.cur) i).map vlR) ∧ x.length ≤ i := ⟨_, rfl, by simp; omega⟩
  obtain ⟨A', eA'⟩ : ∃ x, x = ((flx (difN a.clk b.clk) (i + 1)).map vlR) := ⟨_, rfl⟩
  obtain ⟨B', eB'⟩ : ∃ x, x = ((flx (difN a.cur b.cur) (i + 1)).map vlR) := ⟨_, rfl⟩
  have sA : A' = A ++ (difN a.clk b.clk i).map vlR := by rw [eA', flx_succ, List.map_append, ← eA]
  have sB : B' = B ++ (difN a.cur b.cur i).map vlR := by rw [eB', flx_succ, List.map_append, ← eB]
  have hA' : A'.length ≤ i + 1 := by rw [sA]; have := difN_len a.clk b.clk i; simp; omega
  rw [← eA, ← eB]
  refine rR ?_ <;> first | exact hdT | apply zN
  refine C_seq rfl ?_
  refine C_seq rfl ?_; (refine S_reg0 rfl [0,1,2,3,4,5,6,7,8,9,10,11,12,14,15,16,17,25,36,42,55,78,95,112,131,150,171,187,203,228] rfl rfl (fun K hK => ?_)); simp -dsimp -implicitDefEqProofs only [go_sem, eq_self, ↓reduceIte]; (refine hK _ _ _ _ (fun hx => ?_)); clear hx hK; simp -dsimp -implicitDefEqProofs only [go_sem, eq_self, ↓reduceIte]; clear K
  refine C_cond rfl _ rfl (fun ht => ?_) (fun ht => ?_)
  · simp only [nf] at ht
    refine C_skip rfl ?_
    refine rR ?_ <;> first | exact hdT | apply zN
    refine C_seq rfl ?_
    refine C_block rfl ?_
    refine M_joinO rfl [0,1,2,3,4,5,6,7,8,9,10,11,12,14,15,16,17,25,36,42,55,78,95,112,131,150,171,187,203,228] (k + 8) [] (accH (k + 4) 2 A' (accH (k + 5) 2 B [(k + 2, ⟨6, true, [[.lit (.slice none 0 0), .lit (.slice none 0 0), .lit (.slice none 0 0), .lit (.slice none 0 0), .lit (.slice none 0 0), .lit (.slice none 0 0)]]⟩), (k + 1, ⟨7, true, [b.cells]⟩), (k, ⟨7, true, [a.cells]⟩), (k + 3, ⟨6, false, [[accV (k + 4) A', accV (k + 5) B, .lit (.slice none 0 0), .lit (.slice none 0 0), .lit (.slice none 0 0), .lit (.slice none 0 0)]]⟩)])) ?_ ?_
    · clear eB
      rcases A with _ | ⟨x0, A⟩
      · have kp : Kp [0,1,2,3,4,5,6,7,8,9,10,11,12,14,15,16,17,25,36,42,55,78,95,112,131,150,171,187,203,228] (fun i => i - k) := kpI
        refine wl ?_ <;> and_intros <;> first | exact hdT | (apply zM; (repeat intro ht); apply zM; (repeat intro hg); apply zM)
        · have hd : difN a.clk b.clk i = [((i : Int), b.clk i)] := by rw [difN, if1, if_pos (by simp; omega)]
          rw [sA, hd, List.map_cons, List.map_nil, List.nil_append]
          refine rR ?_ <;> first | exact hdT | apply zN
          exact Mv.app (k + 7) (k + 4) ⟨by omega, by omega⟩ ⟨by omega, by omega⟩ (wk_low (by omega) (by simp -dsimp -implicitDefEqProofs only [go_sem, List.map_append, Flt.row, eq_self, ↓reduceIte]) (by simp -dsimp -implicitDefEqProofs only [go_sem, List.map_append, Flt.row, eq_self, ↓reduceIte]) (by simp -dsimp -implicitDefEqProofs only [go_sem, List.map_append, Flt.row, eq_self, ↓reduceIte]) (by simp -dsimp -implicitDefEqProofs only [go_sem, List.map_append, Flt.row, eq_self, ↓reduceIte]))
        · have hd : difN a.clk b.clk i = [] := by rw [difN, if1, if_neg (by simp; omega)]
          rw [sA, hd, List.map_nil, List.append_nil]
          refine rR ?_ <;> first | exact hdT | apply zN
          exact wkF
      · have hL : A.length + 1 ≤ i := by simpa using hA
        have kp : Kp [0,1,2,3,4,5,6,7,8,9,10,11,12,14,15,16,17,25,36,42,55,78,95,112,131,150,171,187,203,228] (fun i => i - k) := kpI
        refine wl ?_ <;> and_intros <;> first | exact hdT | (apply zM; (repeat intro ht); apply zM; (repeat intro hg); apply zM)
        · have hd : difN a.clk b.clk i = [((i : Int), b.clk i)] := by rw [difN, if1, if_pos (by simp; omega)]
          rw [sA, hd, List.map_cons, List.map_nil, List.cons_append]
          refine rR ?_ <;> first | exact hdT | apply zN
          exact Mv.app (k + 7) (k + 4) ⟨by omega, by omega⟩ ⟨by omega, by omega⟩ (wk_low (by omega) (by simp -dsimp -implicitDefEqProofs only [go_sem, List.map_append, Flt.row, eq_self, ↓reduceIte]) (by simp -dsimp -implicitDefEqProofs only [go_sem, List.map_append, Flt.row, eq_self, ↓reduceIte]) (by simp -dsimp -implicitDefEqProofs only [go_sem, List.map_append, Flt.row, eq_self, ↓reduceIte]) (by simp -dsimp -implicitDefEqProofs only [go_sem, List.map_append, Flt.row, eq_self, ↓reduceIte]))
        · have hd : difN a.clk b.clk i = [] := by rw [difN, if1, if_neg (by simp; omega)]
          rw [sA, hd, List.map_nil, List.append_nil]
          refine rR ?_ <;> first | exact hdT | apply zN
          exact wkF
    refine rR ?_ <;> first | exact hdT | apply zN
    clear eA sA
    rcases B with _ | ⟨x0, B⟩
    · have kp : Kp [0,1,2,3,4,5,6,7,8,9,10,11,12,14,15,16,17,25,36,42,55,78,95,112,131,150,171,187,203,228] (fun i => i - k) := kpI
      refine wl ?_ <;> and_intros <;> first | exact hdT | (apply zM; (repeat intro ht); apply zM; (repeat intro hg); apply zM)
      · have hd : difN a.cur b.cur i = [((i : Int), b.cur i)] := by rw [difN, if1, if_pos (by simp; omega)]
        refine ⟨i + 1, by omega, by omega, ?_⟩
        rw [← eA', ← eB']
        rw [sB, hd, List.map_cons, List.map_nil, List.nil_append]
        refine rR ?_ <;> first | exact hdT | apply zN
        exact Mv.app (k + 9) (k + 5) ⟨by omega, by omega⟩ ⟨by omega, by omega⟩ (wk_low (by omega) (by simp -dsimp -implicitDefEqProofs only [go_sem, List.map_append, Flt.row, eq_self, ↓reduceIte]) (by simp -dsimp -implicitDefEqProofs only [go_sem, List.map_append, Flt.row, eq_self, ↓reduceIte]) (by simp -dsimp -implicitDefEqProofs only [go_sem, List.map_append, Flt.row, eq_self, ↓reduceIte]) (by simp -dsimp -implicitDefEqProofs only [go_sem, List.map_append, Flt.row, eq_self, ↓reduceIte]))
      · have hd : difN a.cur b.cur i = [] := by rw [difN, if1, if_neg (by simp; omega)]
        refine ⟨i + 1, by omega, by omega, ?_⟩
        rw [← eA', ← eB']
        rw [sB, hd, List.map_nil, List.append_nil]
        refine rR ?_ <;> first | exact hdT | apply zN
        exact wkF
    · have hL : B.length + 1 ≤ i := by simpa using hB
      have kp : Kp [0,1,2,3,4,5,6,7,8,9,10,11,12,14,15,16,17,25,36,42,55,78,95,112,131,150,171,187,203,228] (fun i => i - k) := kpI
      refine wl ?_ <;> and_intros <;> first | exact hdT | (apply zM; (repeat intro ht); apply zM; (repeat intro hg); apply zM)
      · have hd : difN a.cur b.cur i = [((i : Int), b.cur i)] := by rw [difN, if1, if_pos (by simp; omega)]
        refine ⟨i + 1, by omega, by omega, ?_⟩
        rw [← eA', ← eB']
        rw [sB, hd, List.map_cons, List.map_nil, List.cons_append]
        refine rR ?_ <;> first | exact hdT | apply zN
        exact Mv.app (k + 9) (k + 5) ⟨by omega, by omega⟩ ⟨by omega, by omega⟩ (wk_low (by omega) (by simp -dsimp -implicitDefEqProofs only [go_sem, List.map_append, Flt.row, eq_self, ↓reduceIte]) (by simp -dsimp -implicitDefEqProofs only [go_sem, List.map_append, Flt.row, eq_self, ↓reduceIte]) (by simp -dsimp -implicitDefEqProofs only [go_sem, List.map_append, Flt.row, eq_self, ↓reduceIte]) (by simp -dsimp -implicitDefEqProofs only [go_sem, List.map_append, Flt.row, eq_self, ↓reduceIte]))
      · have hd : difN a.cur b.cur i = [] := by rw [difN, if1, if_neg (by simp; omega)]
        refine ⟨i + 1, by omega, by omega, ?_⟩
        rw [← eA', ← eB']
        rw [sB, hd, List.map_nil, List.append_nil]
        refine rR ?_ <;> first | exact hdT | apply zN
        exact wkF
  · simp only [nf] at ht
    refine C_exit rfl ?_
    refine rR ?_ <;> first | exact hdT | apply zN
    have hin : i = a.nk := by omega
    subst hin
    clear sA sB eA' eB' hA'
    refine W_mv (Mv.frz_row (id := k + 4) (s := 2) (D := k + 3) (sz := 6) (l := A) (row := [accV (k + 4) A, accV (k + 5) B, .lit (.slice none 0 0), .lit (.slice none 0 0), .lit (.slice none 0 0), .lit (.slice none 0 0)]) 0 (.rd 2 n0 f0) [(8, .ptr (k + 3) 0 0), (5, .lit (.int .i64 0)), (4, .ptr (k + 2) 0 0), (3, .ptr (k + 1) 0 0), (2, .ptr k 0 0)] (accH (k + 5) 2 B [(k + 2, ⟨6, true, [[.lit (.slice none 0 0), .lit (.slice none 0 0), .lit (.slice none 0 0), .lit (.slice none 0 0), .lit (.slice none 0 0), .lit (.slice none 0 0)]]⟩), (k + 1, ⟨7, true, [b.cells]⟩), (k, ⟨7, true, [a.cells]⟩)]) (by omega) (by simp -dsimp -implicitDefEqProofs only [go_sem, List.map_append, Flt.row, eq_self, ↓reduceIte]) rfl (by simp -dsimp -implicitDefEqProofs only [go_sem, List.map_append, Flt.row, eq_self, ↓reduceIte]) (by rw [eA, e0]; exact VLe.refl _) (by simp -dsimp -implicitDefEqProofs only [go_sem, List.map_append, Flt.row, eq_self, ↓reduceIte]) (by simp -dsimp -implicitDefEqProofs only [go_sem, List.map_append, Flt.row, eq_self, ↓reduceIte]) (by simp -dsimp -implicitDefEqProofs only [go_sem, List.map_append, Flt.row, eq_self, ↓reduceIte])) ?_
    refine W_mv (Mv.frz_row (id := k + 5) (s := 2) (D := k + 3) (sz := 6) (l := B) (row := [.rd 2 n0 f0, accV (k + 5) B, .lit (.slice none 0 0), .lit (.slice none 0 0), .lit (.slice none 0 0), .lit (.slice none 0 0)]) 1 (.rd 2 n1 f1) [(8, .ptr (k + 3) 0 0), (5, .lit (.int .i64 0)), (4, .ptr (k + 2) 0 0), (3, .ptr (k + 1) 0 0), (2, .ptr k 0 0)] [(k + 2, ⟨6, true, [[.lit (.slice none 0 0), .lit (.slice none 0 0), .lit (.slice none 0 0), .lit (.slice none 0 0), .lit (.slice none 0 0), .lit (.slice none 0 0)]]⟩), (k + 1, ⟨7, true, [b.cells]⟩), (k, ⟨7, true, [a.cells]⟩)] (by omega) (by simp -dsimp -implicitDefEqProofs only [go_sem, List.map_append, Flt.row, eq_self, ↓reduceIte]) rfl (by simp -dsimp -implicitDefEqProofs only [go_sem, List.map_append, Flt.row, eq_self, ↓reduceIte]) (by rw [eB, e1]; exact VLe.refl _) (by simp -dsimp -implicitDefEqProofs only [go_sem, List.map_append, Flt.row, eq_self, ↓reduceIte]) (by simp -dsimp -implicitDefEqProofs only [go_sem, List.map_append, Flt.row, eq_self, ↓reduceIte]) (by simp -dsimp -implicitDefEqProofs only [go_sem, List.map_append, Flt.row, eq_self, ↓reduceIte])) ?_
    refine W_mv (Mv.wk (k1 := k + 6) (fr1 := [(8, .ptr (k + 3) 0 0), (5, .lit (.int .i64 0)), (4, .ptr (k + 2) 0 0), (3, .ptr (k + 1) 0 0), (2, .ptr k 0 0)]) (H1 := [(k + 2, ⟨6, true, [[.lit (.slice none 0 0), .lit (.slice none 0 0), .lit (.slice none 0 0), .lit (.slice none 0 0), .lit (.slice none 0 0), .lit (.slice none 0 0)]]⟩), (k + 1, ⟨7, true, [b.cells]⟩), (k, ⟨7, true, [a.cells]⟩), (k + 3, ⟨6, false, [[.rd 2 n0 f0, .rd 2 n1 f1, .lit (.slice none 0 0), .lit (.slice none 0 0), .lit (.slice none 0 0), .lit (.slice none 0 0)]]⟩)]) (wk_low (by omega) (by simp -dsimp -implicitDefEqProofs only [go_sem, List.map_append, Flt.row, eq_self, ↓reduceIte]) (by simp -dsimp -implicitDefEqProofs only [go_sem, List.map_append, Flt.row, eq_self, ↓reduceIte]) (by simp -dsimp -implicitDefEqProofs only [go_sem, List.map_append, Flt.row, eq_self, ↓reduceIte]) (by simp -dsimp -implicitDefEqProofs only [go_sem, List.map_append, Flt.row, eq_self, ↓reduceIte]))) ?_
    exact hrest
end Go.Proofs.T
end
