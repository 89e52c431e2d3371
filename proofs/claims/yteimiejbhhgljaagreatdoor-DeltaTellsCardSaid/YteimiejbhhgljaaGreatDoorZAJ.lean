import Derived.Test.YteimiejbhhgljaaGreatDoorZAI
import Derived.RangeFuncRecord
import Derived.WalkKit
import Derived.TacticsIn
import Derived.BigFrameIn
import Derived.Lib.AppendZerosOnto
import Derived.Lib.Overlaps
import Derived.KernelRfl
set_option linter.unusedVariables false
set_option linter.unusedSimpArgs false
section
namespace Go.Proofs.T
open Go Go.AM Go.Proofs
set_option maxRecDepth 20000
def OMin (o : Option Int) (P : Int → Prop) : Prop := match o with
  | none => ∀ x, ¬ P x
  | some m => P m ∧ ∀ x, P x → m ≤ x
theorem OMin.congr {o : Option Int} {P Q : Int → Prop} (h : OMin o P) (hq : ∀ x, P x ↔ Q x) : OMin o Q := by
  have : P = Q := funext fun x => propext (hq x)
  rwa [← this]
theorem OMin.some_iff {o : Option Int} {P : Int → Prop} (h : OMin o P) : o.isSome = true ↔ ∃ x, P x := by
  cases o with
  | none => simp only [Option.isSome_none, Bool.false_eq_true, false_iff, not_exists]; exact h
  | some m => simp only [Option.isSome_some, true_iff]; exact ⟨m, h.1⟩
theorem low_min {f : Nat → Option Int} {g h : Nat} {v : Int} {P : Int → Prop} (hf : OMin (f h) P) : OMin (low f g v h) (fun x => P x ∨ (g = h ∧ x = v)) := by
  by_cases he : h = g
  · subst he
    cases ho : f h with
    | none =>
      rw [ho] at hf
      have : low f h v h = some v := by simp [low, ho, put]
      rw [this]
      refine ⟨.inr ⟨rfl, rfl⟩, fun x hx => ?_⟩
      rcases hx with hx | ⟨_, hx⟩
      · exact absurd hx (hf x)
      · omega
    | some m =>
      rw [ho] at hf
      by_cases hv : v < m
      · have : low f h v h = some v := by simp [low, ho, put, hv]
        rw [this]
        refine ⟨.inr ⟨rfl, rfl⟩, fun x hx => ?_⟩
        rcases hx with hx | ⟨_, hx⟩
        · have := hf.2 x hx; omega
        · omega
      · have : low f h v h = some m := by simp [low, ho, put, hv]
        rw [this]
        refine ⟨.inl hf.1, fun x hx => ?_⟩
        rcases hx with hx | ⟨_, hx⟩
        · exact hf.2 x hx
        · omega
  · have : low f g v h = f h := by
      unfold low
      cases f g with
      | none => simp [put, he]
      | some u => by_cases hv : v < u <;> simp [put, he, hv]
    rw [this]
    exact hf.congr fun x => ⟨.inl, fun hx => hx.elim id fun hx => absurd hx.1.symm he⟩
theorem fT_min (s : St) (c : Int) (h : Nat) : ∀ n, OMin (fT s c n h) (fun x => ∃ i, i < n ∧ takes s c i = true ∧ (s.tsk i).group.toNat = h ∧ x = (s.tsk i).v)
  | 0 => fun x hx => by obtain ⟨i, hi, _⟩ := hx; omega
  | n + 1 => by
    have ih := fT_min s c h n
    rw [fT]
    by_cases ht : takes s c n = true
    · rw [if_pos ht]
      refine (low_min (g := (s.tsk n).group.toNat) (v := (s.tsk n).v) ih).congr fun x => ?_
      constructor
      · rintro (⟨i, h1, h2⟩ | ⟨h1, h2⟩)
        · exact ⟨i, by omega, h2⟩
        · exact ⟨n, by omega, ht, h1, h2⟩
      · rintro ⟨i, h1, h2, h3, h4⟩
        by_cases he : i = n
        · subst he; exact .inr ⟨h3, h4⟩
        · exact .inl ⟨i, by omega, h2, h3, h4⟩
    · rw [if_neg ht]
      refine ih.congr fun x => ?_
      constructor
      · rintro ⟨i, h1, h2⟩
        exact ⟨i, by omega, h2⟩
      · rintro ⟨i, h1, h2, h3⟩
        by_cases he : i = n
        · subst he; exact absurd h2 ht
        · exact ⟨i, by omega, h2, h3⟩
def into (s : St) (c j h : Nat) (x : Int) : Prop :=
  (∃ i, i < s.nt ∧ takes s c i = true ∧ (s.tsk i).group.toNat = h ∧ x = (s.tsk i).v) ∨
  (∃ q, q < j ∧ 0 < s.ns - 1 - q ∧ (dF s c q (s.ns - 1 - q)).isSome = true ∧ (s.par (s.ns - 1 - q)).toNat = h ∧ x = (s.sp (s.ns - 1 - q) c).v)
theorem dF_min (s : St) (c h : Nat) : ∀ j, OMin (dF s c j h) (into s c j h)
  | 0 => (fT_min s c h s.nt).congr fun x => ⟨.inl, fun hx => hx.elim id fun ⟨q, hq, _⟩ => absurd hq (Nat.not_lt_zero _)⟩
  | j + 1 => by
    have ih := dF_min s c h j
    rw [dF, stepF]
    have mono : ∀ x, into s c j h x → into s c (j + 1) h x := fun x hx => hx.elim .inl fun ⟨q, hq, r⟩ => .inr ⟨q, by omega, r⟩
    cases hm : dF s c j (s.ns - 1 - j) with
    | none =>
      have hn := hm
      refine ih.congr fun x => ⟨mono x, ?_⟩
      rintro (hx | ⟨q, hq, h1, h2, h3⟩)
      · exact .inl hx
      · by_cases he : q = j
        · subst he; rw [hn] at h2; cases h2
        · exact .inr ⟨q, by omega, h1, h2, h3⟩
    | some m =>
      simp only
      by_cases hg : 0 < s.ns - 1 - j
      · rw [if_pos hg]
        refine (low_min ih).congr fun x => ⟨?_, ?_⟩
        · rintro (hx | ⟨h1, h2⟩)
          · exact mono x hx
          · exact .inr ⟨j, by omega, hg, by rw [hm]; rfl, h1, h2⟩
        · rintro (hx | ⟨q, hq, h1, h2, h3, h4⟩)
          · exact .inl (.inl hx)
          · by_cases he : q = j
            · subst he; exact .inr ⟨h3, h4⟩
            · exact .inl (.inr ⟨q, by omega, h1, h2, h3, h4⟩)
      · rw [if_neg hg]
        refine ih.congr fun x => ⟨mono x, ?_⟩
        rintro (hx | ⟨q, hq, h1, h2, h3⟩)
        · exact .inl hx
        · by_cases he : q = j
          · subst he; exact absurd h1 hg
          · exact .inr ⟨q, by omega, h1, h2, h3⟩
theorem mem_flatM {f : Nat → List Mem} {x : Mem} : ∀ {n : Nat}, x ∈ flatM f n ↔ ∃ i, i < n ∧ x ∈ f i
  | 0 => by simp [flatM]
  | n + 1 => by
    rw [flatM_succ, List.mem_append, mem_flatM]
    constructor
    · rintro (⟨i, h1, h2⟩ | h)
      · exact ⟨i, by omega, h2⟩
      · exact ⟨n, by omega, h⟩
    · rintro ⟨i, h1, h2⟩
      by_cases he : i = n
      · subst he; exact .inr h2
      · exact .inl ⟨i, by omega, h2⟩
theorem mem_ifM {b : Bool} {f x : Mem} : x ∈ ifM b f ↔ b = true ∧ x = f := by cases b <;> simp [ifM]
theorem memT_iff (s : St) (hk : FloorOk s) (g c : Nat) (x : Int) : (∃ m ∈ flatM (memT s g c) s.nt, m.v = x) ↔ ∃ i, i < s.nt ∧ takes s c i = true ∧ (s.tsk i).group.toNat = g ∧ x = (s.tsk i).v := by
  constructor
  · rintro ⟨m, hm, rfl⟩
    obtain ⟨i, hi, hm⟩ := mem_flatM.1 hm
    obtain ⟨h1, rfl⟩ := mem_ifM.1 hm
    simp only [inQ, Bool.and_eq_true, decide_eq_true_eq] at h1
    exact ⟨i, hi, by simp [takes, h1], by omega, rfl⟩
  · rintro ⟨i, hi, h1, h2, rfl⟩
    simp only [takes, Bool.and_eq_true, decide_eq_true_eq] at h1
    have := hk.grp i hi
    exact ⟨_, mem_flatM.2 ⟨i, hi, mem_ifM.2 ⟨by simp only [inQ, Bool.and_eq_true, decide_eq_true_eq]; exact ⟨h1.1, by omega, h1.2⟩, rfl⟩⟩, rfl⟩
theorem mems_iff (s : St) (hk : FloorOk s) (c : Nat) : ∀ (f g : Nat), g < s.ns → s.ns - g ≤ f + 1 → ∀ x, (∃ m ∈ memF s c f g, m.v = x) ↔ into s c (s.ns - 1 - g) g x
  | 0, g, hg, hf, x => by
    have e : s.ns - 1 - g = 0 := by omega
    rw [memF, memT_iff s hk, e]
    exact ⟨.inl, fun hx => hx.elim id fun ⟨q, hq, _⟩ => absurd hq (Nat.not_lt_zero _)⟩
  | f + 1, g, hg, hf, x => by
    have ih := mems_iff s hk c f
    have hT := memT_iff s hk g c x
    have sub : ∀ h, h < s.ns → g < h → ((memF s c f h).isEmpty = false ↔ (dF s c (s.ns - 1 - h) h).isSome = true) := fun h h1 h2 => by
      rw [(dF_min s c h (s.ns - 1 - h)).some_iff]
      constructor
      · intro he
        cases hl : memF s c f h with
        | nil => rw [hl] at he; cases he
        | cons m l => exact ⟨m.v, (ih h h1 (by omega) m.v).1 ⟨m, by rw [hl]; simp, rfl⟩⟩
      · rintro ⟨y, hy⟩
        obtain ⟨m, hm, _⟩ := (ih h h1 (by omega) y).2 hy
        cases hl : memF s c f h with
        | nil => rw [hl] at hm; cases hm
        | cons m l => rfl
    rw [memF_succ]
    constructor
    · rintro ⟨m, hm, hv⟩
      rcases List.mem_append.1 hm with hm | hm
      · exact .inl (hT.1 ⟨m, hm, hv⟩)
      · obtain ⟨h, h1, hm⟩ := mem_flatM.1 hm
        obtain ⟨h2, rfl⟩ := mem_ifM.1 hm
        simp only [Bool.and_eq_true, decide_eq_true_eq, Bool.not_eq_true'] at h2
        obtain ⟨⟨h3, h4⟩, h5⟩ := h2
        have hp := hk.par h h3 h1
        have hs := (sub h h1 (by omega)).1 h5
        have e : s.ns - 1 - (s.ns - 1 - h) = h := by omega
        refine .inr ⟨s.ns - 1 - h, by omega, by omega, ?_, ?_, ?_⟩
        · rw [e]; exact hs
        · rw [e]; omega
        · rw [e]; exact hv.symm
    · rintro (hx | ⟨q, hq, h1, h2, h3, h4⟩)
      · obtain ⟨m, hm, hv⟩ := hT.2 hx
        exact ⟨m, List.mem_append_left _ hm, hv⟩
      · obtain ⟨h, eh⟩ : ∃ h, h = s.ns - 1 - q := ⟨_, rfl⟩
        rw [← eh] at h1 h2 h3 h4
        have hp := hk.par h h1 (by omega)
        have hq' : q = s.ns - 1 - h := by omega
        rw [hq'] at h2
        refine ⟨⟨(s.sp h c).v, 1, (h : Int)⟩, List.mem_append_right _ (mem_flatM.2 ⟨h, by omega, mem_ifM.2 ⟨?_, rfl⟩⟩), h4.symm⟩
        simp only [Bool.and_eq_true, decide_eq_true_eq, Bool.not_eq_true']
        exact ⟨⟨h1, by omega⟩, (sub h (by omega) (by omega)).2 h2⟩
theorem cntB_all {f : Nat → Bool} : ∀ {n : Nat}, cntB f n = n ↔ ∀ i, i < n → f i = true
  | 0 => ⟨fun _ i hi => by omega, fun _ => rfl⟩
  | n + 1 => by
    have h1 := cntB_le f n
    have ih := cntB_all (f := f) (n := n)
    rw [cntB]
    by_cases hf : f n = true
    · rw [hf]
      constructor
      · intro h i hi
        by_cases he : i = n
        · subst he; exact hf
        · exact ih.1 (by simp at h; omega) i (by omega)
      · intro h
        have := ih.2 fun i hi => h i (by omega)
        simp; omega
    · rw [Bool.not_eq_true] at hf
      rw [hf]
      constructor
      · intro h; simp at h; omega
      · intro h; have := h n (by omega); rw [hf] at this; cases this
theorem floor_eq (s : St) (hk : FloorOk s) (g c : Nat) (hg : g < s.ns) : floorJ s c (s.ns - 1 - g) = flrAt s g c := by
  have e : s.ns - 1 - (s.ns - 1 - g) = g := by omega
  have hm := dF_min s c g (s.ns - 1 - g)
  have hi := mems_iff s hk c s.ns g hg (by omega)
  have hall : ∀ l : List Mem, cntB (belowB s g c l) l.length = l.length ↔ ∀ m ∈ l, (s.sp g c).floor < m.v := fun l => by
    rw [cntB_all]
    constructor
    · intro h m hm
      obtain ⟨i, hi, rfl⟩ := List.getElem_of_mem hm
      have := h i hi
      simpa [belowB, memV, List.getD_eq_getElem?_getD, List.getElem?_eq_getElem hi] using this
    · intro h i hi
      have := h l[i] (List.getElem_mem hi)
      simpa [belowB, memV, List.getD_eq_getElem?_getD, List.getElem?_eq_getElem hi] using this
  unfold floorJ stepL flrAt
  rw [e]
  cases hd : dF s c (s.ns - 1 - g) g with
  | none =>
    rw [hd] at hm
    have : memF s c s.ns g = [] := by
      cases hl : memF s c s.ns g with
      | nil => rfl
      | cons m l => exact absurd ((hi m.v).1 ⟨m, by rw [hl]; simp, rfl⟩) (hm m.v)
    rw [this]
    simp [iff1]
  | some v =>
    rw [hd] at hm
    simp only
    congr 1
    rw [Bool.eq_iff_iff, decide_eq_true_eq, decide_eq_true_eq, hall]
    constructor
    · intro h
      obtain ⟨m, hm1, hm2⟩ := (hi v).2 hm.1
      refine ⟨List.length_pos_of_mem hm1, fun m' hm' => ?_⟩
      have := hm.2 m'.v ((hi m'.v).1 ⟨m', hm', rfl⟩)
      omega
    · rintro ⟨_, h⟩
      obtain ⟨m, hm1, hm2⟩ := (hi v).2 hm.1
      have := h m hm1
      omega
theorem floors_perm (s : St) (hk : FloorOk s) : (floorsL s).Perm (floorsA s) := by
  unfold floorsL floorsA flrR floorsAt
  refine flats_comm.trans (flats_perm fun c hc => ?_)
  refine List.Perm.trans ?_ (flats_rev (f := floorJ s c) (n := s.ns))
  rw [flats_congr (f := fun g => flrAt s g c) (g := fun g => floorJ s c (s.ns - 1 - g)) fun g hg => (floor_eq s hk g c hg).symm]
end Go.Proofs.T
end
section
namespace Go.Proofs.T
open Go Go.AM Go.Proofs
set_option maxRecDepth 20000
theorem taskAt_eq (s : St) (hw : Wf s) (i : Nat) (h0 : 0 ≤ s.cpus) (h1 : s.cpus ≤ 64) : taskAt s i = flats (fun r => brkAt s r i) 7 := by
  have e8 := t8_eq s hw i h0 h1
  have e9 := t9_eq s hw i h1
  simp [flats, brkAt, brk, taskAt, List.append_assoc, e8, e9]
theorem tasks_perm (s : St) (hw : Wf s) (h0 : 0 ≤ s.cpus) (h1 : s.cpus ≤ 64) : (flats (brkR s) 7).Perm (tasksA s) := by
  unfold tasksA brkR
  rw [flats_congr (f := taskAt s) (g := fun i => flats (fun r => brkAt s r i) 7) fun i _ => taskAt_eq s hw i h0 h1]
  exact flats_comm
theorem spots_eq (s : St) (hw : Wf s) (hv : ∀ g c, 0 ≤ (s.sp g c).v) (hp : PartOk s) : spotsA s = flats (rootAt s) s.cpus.toNat ++ flats (sptR s) s.ns := by
  obtain ⟨n, hn⟩ : ∃ n, s.ns = n + 1 := ⟨s.ns - 1, by have := hp.ns1; omega⟩
  unfold spotsA
  have h0 : s.nsp 0 = s.cpus.toNat := by have := hp.sp 0 (by omega); omega
  rw [hn, flats_front, flats_front]
  have e0 : sptR s 0 = [] := rfl
  rw [e0, List.nil_append]
  congr 1
  · unfold spotsAt
    rw [h0]
    refine flats_congr fun c hc => ?_
    unfold spotAt rootAt
    rw [if_pos rfl]
    congr 1
    have := hv 0 c
    have := hw.sr 0 c
    rw [Bool.eq_iff_iff, decide_eq_true_eq, decide_eq_true_eq]
    omega
theorem parts_perm (s : St) (hw : Wf s) (hv : ∀ g c, 0 ≤ (s.sp g c).v) (hp : PartOk s) : (partsL s).Perm (clocksA s ++ (tasksA s ++ spotsA s)) := by
  have hT := tasks_perm s hw hp.c0 hp.c1
  have hnu : s.cpus.toNat = s.nu := by have := hp.nu; omega
  rw [spots_eq s hw hv hp]
  unfold partsL clocksA
  rw [hnu]
  have hc := List.perm_iff_count.1 hT
  rw [List.perm_iff_count]
  intro a
  have := hc a
  simp only [List.count_append]
  omega
theorem leF_r {x y : Flt} (h : x.r < y.r) : leF x y := by unfold leF; omega
theorem leF_a {x y : Flt} (h : x.r = y.r) (h1 : x.a < y.a) : leF x y := by unfold leF; omega
theorem leF_b {x y : Flt} (h : x.r = y.r) (h1 : x.a = y.a) (h2 : x.b ≤ y.b) : leF x y := by unfold leF; omega
theorem mem_shapeAt {s : St} {g : Nat} {x : Flt} (h : x ∈ shapeAt s g) : x = ⟨2, 3, g⟩ := by
  unfold shapeAt at h; split at h <;> simp at h; exact h
theorem mem_cl {s : St} {n : Nat} {x : Flt} (h : x ∈ flats (clockAt s) n) : x.r = 3 ∧ (0 ≤ x.a ∧ x.a < n) ∧ x.b = 0 := by
  obtain ⟨i, hi, h⟩ := mem_flats.1 h
  obtain ⟨_, rfl⟩ := mem_iff1.1 h
  exact ⟨rfl, by simp only; omega, rfl⟩
theorem mem_cu {s : St} {n : Nat} {x : Flt} (h : x ∈ flats (curAt s) n) : x.r = 13 ∧ (0 ≤ x.a ∧ x.a < n) ∧ x.b = 0 := by
  obtain ⟨i, hi, h⟩ := mem_flats.1 h
  obtain ⟨_, rfl⟩ := mem_iff1.1 h
  exact ⟨rfl, by simp only; omega, rfl⟩
theorem mem_rt {s : St} {n : Nat} {x : Flt} (h : x ∈ flats (rootAt s) n) : x.r = 12 ∧ (0 ≤ x.a ∧ x.a < n) ∧ x.b = 0 := by
  obtain ⟨i, hi, h⟩ := mem_flats.1 h
  obtain ⟨_, rfl⟩ := mem_iff1.1 h
  exact ⟨rfl, by simp only; omega, rfl⟩
theorem mem_br {s : St} {r : Nat} {x : Flt} (h : x ∈ brkR s r) : x.r = r + 4 ∧ (0 ≤ x.a ∧ x.a < s.nt) ∧ x.b = 0 := by
  obtain ⟨i, hi, h⟩ := mem_flats.1 h
  obtain ⟨_, rfl⟩ := mem_iff1.1 h
  exact ⟨rfl, by simp only; omega, rfl⟩
theorem mem_sp {s : St} {g : Nat} {x : Flt} (h : x ∈ sptR s g) : x.r = 11 ∧ x.a = g ∧ (0 ≤ x.b ∧ x.b < s.nsp g) := by
  unfold sptR at h
  split at h
  · cases h
  obtain ⟨i, hi, h⟩ := mem_flats.1 h
  obtain ⟨_, rfl⟩ := mem_iff1.1 h
  exact ⟨rfl, rfl, by simp only; omega⟩
theorem mem_fl {s : St} {g : Nat} {x : Flt} (h : x ∈ flrR s g) : x.r = 14 ∧ x.a = g ∧ (0 ≤ x.b ∧ x.b < s.cpus.toNat) := by
  obtain ⟨i, hi, h⟩ := mem_flats.1 h
  obtain ⟨_, rfl⟩ := mem_iff1.1 h
  exact ⟨rfl, rfl, by simp only; omega⟩
theorem ap_sorted {R : Flt → Flt → Prop} {a b : List Flt} (h1 : a.Pairwise R) (h2 : b.Pairwise R) (h3 : ∀ x ∈ a, ∀ y ∈ b, R x y) : (a ++ b).Pairwise R := List.pairwise_append.2 ⟨h1, h2, h3⟩
theorem col_sorted {f : Nat → List Flt} {n : Nat} {r : Int} {b : Nat → Bool} (h : ∀ i, f i = iff1 (b i) ⟨r, (i : Int), 0⟩) : (flats f n).Pairwise leF :=
  flats_sorted (fun i _ => by rw [h]; exact iff1_sorted) (fun i j hij _ x hx y hy => by
    rw [h] at hx hy
    obtain ⟨_, rfl⟩ := mem_iff1.1 hx
    obtain ⟨_, rfl⟩ := mem_iff1.1 hy
    exact leF_a rfl (by simp only; omega))
theorem row_sorted {f : Nat → List Flt} {n : Nat} {r a : Int} {b : Nat → Bool} (h : ∀ i, f i = iff1 (b i) ⟨r, a, (i : Int)⟩) : (flats f n).Pairwise leF :=
  flats_sorted (fun i _ => by rw [h]; exact iff1_sorted) (fun i j hij _ x hx y hy => by
    rw [h] at hx hy
    obtain ⟨_, rfl⟩ := mem_iff1.1 hx
    obtain ⟨_, rfl⟩ := mem_iff1.1 hy
    exact leF_b rfl rfl (by simp only; omega))
theorem ite_sorted {R : Flt → Flt → Prop} {p : Prop} [Decidable p] {f : Flt} : (if p then [f] else []).Pairwise R := by split <;> simp
theorem mem_ite {p : Prop} [Decidable p] {f x : Flt} (h : x ∈ (if p then [f] else [])) : x = f := by split at h <;> simp at h; exact h
theorem shapes_last {s : St} {x : Flt} (h : x ∈ (if s.ns ≠ s.ng then [⟨2, 2, 0⟩] else flats (shapeAt s) s.ns)) : x.r = 2 ∧ (2 ≤ x.a ∧ x.a ≤ 3) ∧ (0 ≤ x.b ∧ x.b ≤ s.ns) := by
  split at h
  · simp at h; subst h; exact ⟨rfl, by simp, by simp⟩
  · obtain ⟨i, hi, h⟩ := mem_flats.1 h
    rw [mem_shapeAt h]
    exact ⟨rfl, by simp, by simp only; omega⟩
theorem shapes_sorted (s : St) : (shapesL s).Pairwise leF := by
  unfold shapesL
  refine ap_sorted (ap_sorted ite_sorted ite_sorted fun x hx y hy => ?_) ?_ fun x hx y hy => ?_
  · rw [mem_ite hx, mem_ite hy]; exact leF_a rfl (by simp)
  · split
    · simp
    · refine flats_sorted (fun i _ => by unfold shapeAt; split <;> simp) fun i j hij _ x hx y hy => ?_
      rw [mem_shapeAt hx, mem_shapeAt hy]; exact leF_b rfl rfl (by simp only; omega)
  · obtain ⟨h1, h2, h3⟩ := shapes_last hy
    rcases List.mem_append.1 hx with hx | hx <;> rw [mem_ite hx] <;> exact leF_a h1.symm (by simp only; omega)
theorem parts_sorted (s : St) : (partsL s).Pairwise leF := by
  have hB : ∀ x ∈ flats (brkR s) 7, 4 ≤ x.r ∧ x.r ≤ 10 := fun x hx => by
    obtain ⟨i, hi, hx⟩ := mem_flats.1 hx
    have := mem_br hx; omega
  have hS : ∀ x ∈ flats (sptR s) s.ns, x.r = 11 := fun x hx => by
    obtain ⟨i, hi, hx⟩ := mem_flats.1 hx
    exact (mem_sp hx).1
  unfold partsL
  refine ap_sorted (col_sorted fun i => rfl) (ap_sorted ?_ (ap_sorted ?_ (ap_sorted (col_sorted fun i => rfl) (col_sorted fun i => rfl) fun x hx y hy => ?_) fun x hx y hy => ?_) fun x hx y hy => ?_) fun x hx y hy => ?_
  · refine flats_sorted (fun i _ => col_sorted fun i => rfl) fun i j hij _ x hx y hy => ?_
    have := mem_br hx; have := mem_br hy
    exact leF_r (by omega)
  · refine flats_sorted (fun i _ => ?_) fun i j hij _ x hx y hy => ?_
    · unfold sptR
      split
      · exact List.Pairwise.nil
      · exact row_sorted fun i => rfl
    · have := mem_sp hx; have := mem_sp hy
      exact leF_a (by omega) (by omega)
  · have := mem_rt hx; have := mem_cu hy
    exact leF_r (by omega)
  · have := hS x hx
    rcases List.mem_append.1 hy with hy | hy
    · have := mem_rt hy; exact leF_r (by omega)
    · have := mem_cu hy; exact leF_r (by omega)
  · have := hB x hx
    rcases List.mem_append.1 hy with hy | hy
    · have := hS y hy; exact leF_r (by omega)
    rcases List.mem_append.1 hy with hy | hy
    · have := mem_rt hy; exact leF_r (by omega)
    · have := mem_cu hy; exact leF_r (by omega)
  · have := mem_cl hx
    rcases List.mem_append.1 hy with hy | hy
    · have := hB y hy; exact leF_r (by omega)
    rcases List.mem_append.1 hy with hy | hy
    · have := hS y hy; exact leF_r (by omega)
    rcases List.mem_append.1 hy with hy | hy
    · have := mem_rt hy; exact leF_r (by omega)
    · have := mem_cu hy; exact leF_r (by omega)
theorem floors_sorted (s : St) : (floorsL s).Pairwise leF := by
  refine flats_sorted (fun i _ => row_sorted fun i => rfl) fun i j hij _ x hx y hy => ?_
  have := mem_fl hx; have := mem_fl hy
  exact leF_a (by omega) (by omega)
theorem checkR_sorted (s : St) : (checkR s).Pairwise leF := by
  unfold checkR
  split
  · simp
  · split
    · exact shapes_sorted s
    · split
      · exact parts_sorted s
      · exact floors_sorted s
def okN (x : Flt) : Prop := (0 ≤ x.r ∧ x.r < 256) ∧ (0 ≤ x.a ∧ x.a < 1000000) ∧ (0 ≤ x.b ∧ x.b < 1000000)
theorem shapes_ok (s : St) (hs : s.Small) : ∀ x ∈ shapesL s, okN x := fun x hx => by
  have := hs.ns
  unfold shapesL at hx
  rcases List.mem_append.1 hx with hx | hx
  · rcases List.mem_append.1 hx with hx | hx <;> rw [mem_ite hx] <;> simp [okN]
  · have := shapes_last hx
    unfold okN; omega
theorem parts_ok (s : St) (hs : s.Small) (hc : s.cpus ≤ 64) : ∀ x ∈ partsL s, okN x := fun x hx => by
  obtain ⟨hng, hnk, hnu, hnt, hns, hnsp⟩ := id hs
  unfold okN
  unfold partsL at hx
  rcases List.mem_append.1 hx with hx | hx
  · have := mem_cl hx; omega
  rcases List.mem_append.1 hx with hx | hx
  · obtain ⟨i, hi, hx⟩ := mem_flats.1 hx
    have := mem_br hx; omega
  rcases List.mem_append.1 hx with hx | hx
  · obtain ⟨i, hi, hx⟩ := mem_flats.1 hx
    have := mem_sp hx; have := hnsp i hi; omega
  rcases List.mem_append.1 hx with hx | hx
  · have := mem_rt hx; omega
  · have := mem_cu hx; omega
theorem floors_ok (s : St) (hs : s.Small) (hc : s.cpus ≤ 64) : ∀ x ∈ floorsL s, okN x := fun x hx => by
  have := hs.ns
  obtain ⟨i, hi, hx⟩ := mem_flats.1 hx
  have := mem_fl hx
  unfold okN; omega
theorem checkR_ok (s : St) (hs : s.Small) : ∀ x ∈ checkR s, okN x := by
  intro x hx
  unfold checkR at hx
  by_cases hr : refCfg s = false
  · rw [if_pos hr] at hx; simp at hx; subst hx; simp [okN]
  · rw [if_neg hr] at hx
    have hc := (refCfg_spec (s := s) (by simpa using hr)).1.2.1
    split at hx
    · exact shapes_ok s hs x hx
    · split at hx
      · exact parts_ok s hs hc x hx
      · exact floors_ok s hs hc x hx
theorem floorOk (s : St) (h12 : s.ns ≤ 12) (hr : refCfg s = true) (hsh : (shapesL s).length = 0) (hT : (tasksA s).length = 0) : FloorOk s := by
  obtain ⟨⟨h1, h2, h3, h4, h5, h6, h7⟩, hall⟩ := refCfg_spec hr
  obtain ⟨k1, k2, k3, k4⟩ := shapes_nil hsh
  refine ⟨fun i hi => ?_, fun g hg hn => ?_, k4, by omega, by omega, h2, h12⟩
  · have h := flats_nil hT i hi
    have h6 : t6 s i = false := by
      unfold taskAt at h
      simp only [List.append_eq_nil_iff, iff1_nil] at h
      exact h.2.2.1
    simp only [t6, decide_eq_false_iff_not] at h6
    omega
  · have := hall g hg (by omega)
    simp only [okR, Bool.and_eq_true, decide_eq_true_eq] at this
    exact rdep_par hg this.2
end Go.Proofs.T
end
section
namespace Go.Proofs.T
open Go Go.AM Go.Proofs Go.RowKit
set_option maxRecDepth 20000
attribute [local go_sem] Oper.semAt_some
noncomputable def dBody : Code := match Tryz.f272.body with
  | some (.seq _ (.seq _ (.seq (.seq _ (.block _ (.rangeFunc _ _ _ b))) _))) => b
  | _ => .skip
noncomputable def dRec (fn : FuncId) (sl : Value) (g : Int) (N : Nat) (st : LoopState) (pend : Option Code) : Loop :=
  { state := st, pending := pend, fn, tmps := #[sl, .int .i64 g, undef, undef, .int .i64 0, .pointer (some ⟨N, 0, none⟩), sl, .int .i64 g, .func (.func 315) #[] #[.pointer (some ⟨N + 2, 0, none⟩), .pointer (some ⟨N + 1, 0, none⟩)], undef, undef, undef, undef], params := #[9], assign := .skip, body := dBody, defers := N + 3 }
structure DMid (fn : FuncId) (sl : Value) (g : Int) (w : World) (x y : Int) (W : World) : Prop where
  c : W.cell? ⟨w.heap.size, 0, none⟩ = some (.int .i64 x)
  f : W.frozen? ⟨w.heap.size, 0, none⟩ = false
  cl : W.cell? ⟨w.heap.size + 1, 0, none⟩ = some sl
  cg : W.cell? ⟨w.heap.size + 2, 0, none⟩ = some (.int .i64 y)
  fg : W.frozen? ⟨w.heap.size + 2, 0, none⟩ = false
  L : W.heap[w.heap.size + 4]? = some (.loop (dRec fn sl g w.heap.size .ready none))
  K : W.heap[w.heap.size + 3]? = some (.deferred (some []))
  b : Below w.heap.size w W
theorem below_put {B : Nat} {w W : World} (h : Below B w W) {r : Nat} (hr : B ≤ r) (o : Obj) : Below B w (W.putObj r o) :=
  ⟨h.os, h.tape, h.output, by rw [World.putObj_size]; exact h.size, fun k hk => (World.putObj_heap_other (by omega)).trans (h.block k hk)⟩
set_option maxHeartbeats 1000000 in
theorem dRound (F : Fence) (m : Nat) (fn : FuncId) (hfn : F.fn fn) (sl : Value) (g : Int) (w : World) (x y : Int) (hx : -1 ≤ x) (hx2 : x ≤ 100000) (W : World) (h : DMid fn sl g w x y W) :
    RoundIn F m Tryz.prog (w.heap.size + 4) fn #[sl, .int .i64 g, undef, undef, .int .i64 0, .pointer (some ⟨w.heap.size, 0, none⟩), sl, .int .i64 g, .func (.func 315) #[] #[.pointer (some ⟨w.heap.size + 2, 0, none⟩), .pointer (some ⟨w.heap.size + 1, 0, none⟩)], .int .i64 y, undef, undef, undef] .skip dBody W
      fun e W' => e = .returned (.bool true) ∧ DMid fn sl g w (x + 1) y W' := by
  refine roundIn_of_wpIn hfn ?_
  have hl : w.heap.size + 4 < W.heap.size := (Array.getElem?_eq_some_iff.1 h.L).1
  have hbr := run_beginRound (P := Tryz.prog) h.L rfl
  obtain ⟨W2, hW2⟩ : ∃ W2, W.putObj (w.heap.size + 4) (.loop { dRec fn sl g w.heap.size .ready none with state := .busy }) = W2 := ⟨_, rfl⟩
  rw [hW2] at hbr
  have hk : ∀ k, k ≠ w.heap.size + 4 → W2.heap[k]? = W.heap[k]? := fun k hk => by rw [← hW2]; exact World.putObj_heap_other hk
  have hc2 : W2.cell? ⟨w.heap.size, 0, none⟩ = some (.int .i64 x) := (World.cell?_of_block (hk w.heap.size (by omega))).trans h.c
  have hf2 : W2.frozen? ⟨w.heap.size, 0, none⟩ = false := (World.frozen?_of_block (hk w.heap.size (by omega))).trans h.f
  have hL2 : W2.heap[w.heap.size + 4]? = some (.loop { dRec fn sl g w.heap.size .ready none with state := .busy }) := by rw [← hW2]; exact World.putObj_heap_same hl
  have hb2 : Below w.heap.size w W2 := by rw [← hW2]; exact below_put h.b (by omega) _
  clear hW2
  have hwr : wrap64 (x + 1) = x + 1 := by unfold wrap64; omega
  gi_wp2
  conv in dBody => whnf
  gi_wp2
  have hk3 : ∀ k, k ≠ w.heap.size → (W2.setCell ⟨w.heap.size, 0, none⟩ (.int .i64 (x + 1))).heap[k]? = W2.heap[k]? := fun k hk => Below.heap_setCell W2 ⟨w.heap.size, 0, none⟩ _ k hk
  have hL3 := (hk3 (w.heap.size + 4) (by omega)).trans hL2
  have hl3 := (Array.getElem?_eq_some_iff.1 hL3).1
  have hall : ∀ (o : Obj) (k : Nat), k ≠ w.heap.size → k ≠ w.heap.size + 4 → ((W2.setCell ⟨w.heap.size, 0, none⟩ (.int .i64 (x + 1))).putObj (w.heap.size + 4) o).heap[k]? = W.heap[k]? := fun o k h1 h2 =>
    (World.putObj_heap_other h2).trans ((hk3 k h1).trans (hk k h2))
  refine ⟨_, _, run_endRound none hL3, rfl, ?_, ?_, ?_, ?_, ?_, ?_, ?_, ?_⟩
  · exact (World.cell?_of_block (World.putObj_heap_other (k := w.heap.size) (by omega))).trans (World.cell?_setCell_same' _ _ _ (by rw [hc2]; rfl))
  · exact (World.frozen?_of_block (World.putObj_heap_other (k := w.heap.size) (by omega))).trans (by rw [World.frozen?_setCell]; exact hf2)
  · exact (World.cell?_of_block (hall _ (w.heap.size + 1) (by omega) (by omega))).trans h.cl
  · exact (World.cell?_of_block (hall _ (w.heap.size + 2) (by omega) (by omega))).trans h.cg
  · exact (World.frozen?_of_block (hall _ (w.heap.size + 2) (by omega) (by omega))).trans h.fg
  · exact World.putObj_heap_same hl3
  · exact (hall _ _ (by omega) (by omega)).trans h.K
  · exact below_put (hb2.setCell (p := ⟨w.heap.size, 0, none⟩) (Nat.le_refl _) _) (by omega) _
theorem pdep_le (par : Nat → Int) : ∀ f g, pdep par f g ≤ f
  | 0, g => by simp [pdep]
  | f + 1, g => by
    rw [pdep]
    split
    · omega
    · have := pdep_le par f (par g).toNat; omega
structure Pars (w : World) (b o cap n : Nat) (par : Nat → Int) : Prop where
  lt : b < w.heap.size
  at_ : ∀ i, i < n → w.cell? ⟨b, o + i * 2, none⟩ = some (.int .i64 (par i))
noncomputable def dMu (N : Nat) (W : World) : Nat := match W.cell? ⟨N + 2, 0, none⟩ with
  | some (.int _ y) => y.toNat
  | _ => 0
theorem Pars.get {w W : World} {b o cap n : Nat} {par : Nat → Int} (h : Pars w b o cap n par) (hb : Below w.heap.size w W) (i : Nat) (hi : i < n) : W.cell? ⟨b, o + i * 2, none⟩ = some (.int .i64 (par i)) :=
  (World.cell?_of_block (hb.block b h.lt)).trans (h.at_ i hi)
set_option maxHeartbeats 1000000 in
theorem upIter (F : Fence) (n : Nat) (hF : F.fn 315) (hro : F.round = none) (hn : 1 ≤ n) (fn : FuncId) (hfn : F.fn fn) (w : World) (b o cap N : Nat) (par : Nat → Int) (hp : Pars w b o cap N par) (g : Nat) (hg : g < N) (hN : N ≤ 1000) (hv : ∀ j, 1 ≤ j → j ≤ g → 0 ≤ par j ∧ par j < j)
    (W : World) (h : DMid fn (.slice (some ⟨b, o, none⟩) N cap) g w (-1) g W) :
    CallsIn F n Tryz.prog 315 #[.func (.yield (w.heap.size + 4)) #[] #[], .pointer (some ⟨w.heap.size + 2, 0, none⟩), .pointer (some ⟨w.heap.size + 1, 0, none⟩)] W fun e W' => (∃ v, e = .returned v) ∧ ∃ y, DMid fn (.slice (some ⟨b, o, none⟩) N cap) g w (pdep par g g) y W' := by
  refine callsIn_of_wp Tryz.func315 rfl hF ?_ hro
  simp only [Tryz.ntmps315, List.size_toArray, List.length_cons, List.length_nil, Nat.reduceAdd, Nat.reduceSub, Array.replicate_succ, Array.replicate_zero, List.push_toArray, List.append_toArray, List.nil_append, List.cons_append]
  refine wpIn_block ?_
  refine wpIn_loop (fun a' W' => ∃ (y : Nat) (x : Int) (x4 x5 x6 x7 x8 x9 x10 x11 x12 x13 x14 x15 : Value), a' = { tmps := #[.func (.yield (w.heap.size + 4)) #[] #[], .pointer (some ⟨w.heap.size + 2, 0, none⟩), .pointer (some ⟨w.heap.size + 1, 0, none⟩), undef, x4, x5, x6, x7, x8, x9, x10, x11, x12, x13, x14, x15], defers := [] } ∧ y ≤ g ∧ -1 ≤ x ∧ x + 1 + pdep par y y = pdep par g g ∧ DMid fn (.slice (some ⟨b, o, none⟩) N cap) g w x y W') (fun _ W' => dMu w.heap.size W') ⟨g, -1, _, _, _, _, _, _, _, _, _, _, _, _, rfl, Nat.le_refl _, by omega, by omega, h⟩ ?_
  rintro a' W' ⟨y, x, x4, x5, x6, x7, x8, x9, x10, x11, x12, x13, x14, x15, rfl, hy, hx, hs, h'⟩
  have hpd : pdep par g g ≤ 1000 := Nat.le_trans (pdep_le par g g) (by omega)
  have hy1 : (Instr.yield (w.heap.size + 4) #[.int .i64 (y : Int)]).run Tryz.prog W' = .ok (.round (w.heap.size + 4) fn #[.slice (some ⟨b, o, none⟩) N cap, .int .i64 (g : Int), undef, undef, .int .i64 0, .pointer (some ⟨w.heap.size, 0, none⟩), .slice (some ⟨b, o, none⟩) N cap, .int .i64 (g : Int), .func (.func 315) #[] #[.pointer (some ⟨w.heap.size + 2, 0, none⟩), .pointer (some ⟨w.heap.size + 1, 0, none⟩)], .int .i64 (y : Int), undef, undef, undef] .skip dBody) W' := by
    simpa [dRec] using run_yield (P := Tryz.prog) (args := #[.int .i64 (y : Int)]) h'.L rfl
  have hmu : dMu w.heap.size W' = y := by unfold dMu; rw [h'.cg]; simp
  have hcg := h'.cg
  have hcl := h'.cl
  by_cases hy0 : 0 < (y : Int)
  · gi_wp2
    refine (dRound F (n - 1) fn hfn _ g w x y hx (by omega) W' h').mono ?_
    rintro e W1 ⟨rfl, h1⟩
    have hcg := h1.cg
    have hfg := h1.fg
    have hcl := h1.cl
    have hpar := hp.get h1.b y (by omega)
    gi_wp2
    obtain ⟨q, hq⟩ : ∃ q : Nat, par y = q := ⟨(par y).toNat, by have := hv y (by omega) hy; omega⟩
    have hv' := hv y (by omega) hy
    rw [hq] at hv' ⊢
    have hk : ∀ k, k ≠ w.heap.size + 2 → (W1.setCell ⟨w.heap.size + 2, 0, none⟩ (.int .i64 (q : Int))).heap[k]? = W1.heap[k]? := fun k hk => Below.heap_setCell W1 ⟨w.heap.size + 2, 0, none⟩ _ k hk
    have hc' : (W1.setCell ⟨w.heap.size + 2, 0, none⟩ (.int .i64 (q : Int))).cell? ⟨w.heap.size + 2, 0, none⟩ = some (.int .i64 (q : Int)) := World.cell?_setCell_same' _ _ _ (by rw [hcg]; rfl)
    refine ⟨⟨q, x + 1, _, _, _, _, _, _, _, _, _, _, _, _, rfl, by omega, by omega, ?_, ?_⟩, ?_⟩
    · obtain ⟨y', hy'⟩ : ∃ y', y = y' + 1 := ⟨y - 1, by omega⟩
      subst hy'
      rw [pdep, if_neg (by omega), hq, Int.toNat_natCast, pdep_fuel y' q (by omega) (fun j h1 h2 => hv j h1 (by omega))] at hs
      omega
    · refine ⟨?_, ?_, ?_, hc', ?_, ?_, ?_, ?_⟩
      · exact (World.cell?_of_block (hk w.heap.size (by omega))).trans h1.c
      · exact (World.frozen?_of_block (hk w.heap.size (by omega))).trans h1.f
      · exact (World.cell?_of_block (hk (w.heap.size + 1) (by omega))).trans h1.cl
      · rw [World.frozen?_setCell]; exact h1.fg
      · exact (hk _ (by omega)).trans h1.L
      · exact (hk _ (by omega)).trans h1.K
      · exact h1.b.setCell (p := ⟨w.heap.size + 2, 0, none⟩) (Nat.le_add_right _ _) _
    · rw [hmu]; unfold dMu; rw [hc']; simp only [Int.toNat_natCast]; omega
  · gi_wp2
    refine (dRound F (n - 1) fn hfn _ g w x y hx (by omega) W' h').mono ?_
    rintro e W1 ⟨rfl, h1⟩
    have hcg := h1.cg
    gi_wp2
    first | go_end0 | go_ret
    obtain rfl : y = 0 := by omega
    refine ⟨⟨_, rfl⟩, (0 : Nat), ?_⟩
    rw [pdep] at hs
    rw [← hs]
    simpa using h1
theorem up_in (F : Fence) (n : Nat) (h83 : F.fn 299) (hro : F.round = none) (ad : Option Addr) (N cap : Nat) (g : Int) (W : World) :
    CallsIn F n Tryz.prog 299 #[.slice ad N cap, .int .i64 g] W fun e W' => e = .returned (.func (.func 315) #[] #[.pointer (some ⟨W.heap.size + 1, 0, none⟩), .pointer (some ⟨W.heap.size, 0, none⟩)]) ∧ ∃ t1 t2, W' = (W.alloc (.cells #[.slice ad N cap] t1)).alloc (.cells #[.int .i64 g] t2) := by
  refine callsIn_of_wp Tryz.func299 rfl h83 ?_ hro
  simp only [Tryz.ntmps299, List.size_toArray, List.length_cons, List.length_nil, Nat.reduceAdd, Nat.reduceSub, Array.replicate_succ, Array.replicate_zero, List.push_toArray, List.append_toArray, List.nil_append, List.cons_append]
  gi_wp2
  first | go_end0 | go_ret
  exact ⟨rfl, _, _, rfl⟩
set_option maxHeartbeats 1000000 in
theorem depth_in (F : Fence) (n : Nat) (h70 : F.fn 272) (h83 : F.fn 299) (h93 : F.fn 315) (hro : F.round = none) (hn : 2 ≤ n) (w : World) (b o cap N : Nat) (par : Nat → Int) (hp : Pars w b o cap N par) (g : Nat) (hg : g < N) (hN : N ≤ 1000) (hv : ∀ j, 1 ≤ j → j ≤ g → 0 ≤ par j ∧ par j < j) :
    CallsIn F n Tryz.prog 272 #[.slice (some ⟨b, o, none⟩) N cap, .int .i64 (g : Int)] w fun e W' => e = .returned (.int .i64 (pdep par g g : Nat)) ∧ Below w.heap.size w W' := by
  refine callsIn_of_wp_marks Tryz.func272 rfl h70 ?_ hro
  simp only [Tryz.ntmps272, List.size_toArray, List.length_cons, List.length_nil, Nat.reduceAdd, Nat.reduceSub, Array.replicate_succ, Array.replicate_zero, List.push_toArray, List.append_toArray, List.nil_append, List.cons_append]
  gi_wp2
  refine ⟨fun _ => by omega, (up_in F (n - 1) h83 hro _ _ _ g _).mono ?_⟩
  rintro e W0 ⟨rfl, t1, t2, hW0⟩
  simp only [World.size_alloc] at hW0 ⊢
  have hs0 : W0.heap.size = w.heap.size + 3 := by rw [hW0]; simp
  have hb0 : Below w.heap.size w W0 := by
    rw [hW0]
    exact (((Below.refl _ w).alloc (Nat.le_refl _) _).alloc (by simp) _).alloc (by simp; omega) _
  have hh : W0.heap[w.heap.size]? = some (.cells #[.int .i64 (-1)] 3) ∧ W0.heap[w.heap.size + 1]? = some (.cells #[.slice (some ⟨b, o, none⟩) N cap] t1) ∧ W0.heap[w.heap.size + 2]? = some (.cells #[.int .i64 (g : Int)] t2) := by
    rw [hW0]
    refine ⟨?_, ?_, ?_⟩
    · exact (Below.heap_alloc _ _ _ (by simp; omega)).trans ((Below.heap_alloc _ _ _ (by simp)).trans (World.alloc_heap_new w _))
    · refine (Below.heap_alloc _ _ _ (by simp)).trans ?_
      have := World.alloc_heap_new (w.alloc (.cells #[.int .i64 (-1)] 3)) (.cells #[.slice (some ⟨b, o, none⟩) N cap] t1)
      rwa [World.size_alloc] at this
    · have := World.alloc_heap_new ((w.alloc (.cells #[.int .i64 (-1)] 3)).alloc (.cells #[.slice (some ⟨b, o, none⟩) N cap] t1)) (.cells #[.int .i64 (g : Int)] t2)
      rwa [World.size_alloc, World.size_alloc] at this
  clear hW0
  obtain ⟨hh0, hh1, hh2⟩ := hh
  gi_wp2
  refine wpIn_rangeFunc ?_
  intro fn hfn
  rw [hro]
  obtain ⟨W1, hW1⟩ : ∃ W1, (W0.alloc (.deferred (some []))).alloc (.loop (dRec fn (.slice (some ⟨b, o, none⟩) N cap) g w.heap.size .ready none)) = W1 := ⟨_, rfl⟩
  have hold : ∀ k, k < W0.heap.size → W1.heap[k]? = W0.heap[k]? := fun k hk => by
    rw [← hW1]; exact (Below.heap_alloc _ _ k (by simp; omega)).trans (Below.heap_alloc _ _ k hk)
  have hM : DMid fn (.slice (some ⟨b, o, none⟩) N cap) g w (-1) g W1 := by
    have e0 := (hold w.heap.size (by omega)).trans hh0
    have e1 := (hold (w.heap.size + 1) (by omega)).trans hh1
    have e2 := (hold (w.heap.size + 2) (by omega)).trans hh2
    refine ⟨by simp [World.cell?, e0], by simp [World.frozen?, e0], by simp [World.cell?, e1], by simp [World.cell?, e2], by simp [World.frozen?, e2], ?_, ?_, ?_⟩
    · rw [← hW1]; have := World.alloc_heap_new (W0.alloc (.deferred (some []))) (.loop (dRec fn (.slice (some ⟨b, o, none⟩) N cap) g w.heap.size .ready none)); rwa [World.size_alloc, hs0] at this
    · rw [← hW1, ← hs0]; exact (Below.heap_alloc _ _ _ (by simp)).trans (World.alloc_heap_new W0 _)
    · rw [← hW1]; exact (hb0.alloc (by omega) _).alloc (by simp; omega) _
  refine ⟨w.heap.size + 4, [{ target := .collected (w.heap.size + 3), args := #[] }], W1, { target := .fn (.func 315) #[.pointer (some ⟨w.heap.size + 2, 0, none⟩), .pointer (some ⟨w.heap.size + 1, 0, none⟩)], args := #[.func (.yield (w.heap.size + 4)) #[] #[]] }, W1, 315,
    #[.func (.yield (w.heap.size + 4)) #[] #[], .pointer (some ⟨w.heap.size + 2, 0, none⟩), .pointer (some ⟨w.heap.size + 1, 0, none⟩)], W1, ?_, ?_, ?_, ?_, fun _ => by omega, ?_⟩
  · have := run_enterLoop_outer (P := Tryz.prog) (w := W0) fn (dRec fn (.slice (some ⟨b, o, none⟩) N cap) g w.heap.size .ready none).tmps #[9] .skip dBody
    rw [hs0] at this
    rw [← hW1]; exact this
  · simp [resolve, go_sem]
  · intro f' hf'; simp [Target.leads] at hf'; subst hf'; exact h93
  · simp [invoke, go_sem]
  · refine (upIter F (n - 1) h93 hro (by omega) fn hfn w b o cap N par hp g hg hN hv W1 hM).mono ?_
    rintro e W2 ⟨⟨v, rfl⟩, y, h2⟩
    have hend := run_endLoop (P := Tryz.prog) h2.L (by simp [dRec])
    obtain ⟨W3, hW3⟩ : ∃ W3, W2.putObj (w.heap.size + 4) (.loop { dRec fn (.slice (some ⟨b, o, none⟩) N cap) g w.heap.size .ready none with state := .exhausted }) = W3 := ⟨_, rfl⟩
    rw [hW3] at hend
    have hc3 : W3.cell? ⟨w.heap.size, 0, none⟩ = some (.int .i64 (pdep par g g : Nat)) := by rw [← hW3]; exact (World.cell?_of_block (World.putObj_heap_other (k := w.heap.size) (by omega))).trans h2.c
    have hK3 : W3.heap[w.heap.size + 3]? = some (.deferred (some [])) := by rw [← hW3]; exact (World.putObj_heap_other (by omega)).trans h2.K
    have hb3 : Below w.heap.size w W3 := by rw [← hW3]; exact below_put h2.b (by omega) _
    clear hW3
    refine ⟨none, W3, hend, ?_⟩
    gi_wp2
    refine ⟨by simp, .inl ⟨_, _, rfl, run_takeDeferred hK3, ?_⟩⟩
    exact ⟨_, results_tmp rfl _ _ _, rfl, below_put hb3 (by omega) _⟩
theorem depth_calls (w : World) (b o cap N : Nat) (par : Nat → Int) (hp : Pars w b o cap N par) (g : Nat) (hg : g < N) (hN : N ≤ 1000) (hv : ∀ j, 1 ≤ j → j ≤ g → 0 ≤ par j ∧ par j < j) :
    Calls Tryz.prog 272 #[.slice (some ⟨b, o, none⟩) N cap, .int .i64 (g : Int)] w fun e W' => e = .returned (.int .i64 (pdep par g g : Nat)) ∧ Below w.heap.size w W' :=
  callsIn_wide.1 (depth_in Fence.wide 2 trivial trivial trivial rfl (Nat.le_refl _) w b o cap N par hp g hg hN hv)
theorem pure_of_below {Γ : List (Nat × List AVal)} {w w' : World} {G : Nat → Prop} {ρ : Names} {A : Allow} {k : Nat} (hr : HRel Γ w G ρ (ofHeap [] A)) (h : Below w.heap.size w w') :
    HRel Γ w' G ρ (ofHeap [] (alw A k k)) ∧ Step (below k) w G ρ w' G ρ := by
  have hn : ∀ id, ρ id = none := fun id => hr.dom id rfl
  have hst : Step (below k) w G ρ w' G ρ := ⟨h.size, fun b hb _ => h.block b hb, fun b hb => shp_of (h.block b hb), fun _ h => h, fun _ h => .inl h, fun _ h => .inl h, fun _ _ => .inr rfl, h.os, h.tape, h.output⟩
  refine ⟨⟨fun id _ => hn id, fun id B A' hid => by simp [ofHeap, AM.look] at hid, hr.inj, fun b hb => Nat.lt_of_lt_of_le (hr.ro b hb) h.size, ?_⟩, hst⟩
  exact glob_step hr hst
theorem depthOk (Γ : List (Nat × List AVal)) : DepthOk Γ := by
  intro s n g hg hn hv k A hA w G ρ cargs hr hvs
  obtain ⟨hlen, hvv⟩ := hvs
  have h0 := hvv 0 _ rfl
  have h1 := hvv 1 _ rfl
  have hc2 : cargs = #[cargs.getD 0 undef, cargs.getD 1 undef] := by
    have hsz : cargs.size = 2 := hlen.symm
    apply Array.ext
    · simp [hsz]
    · intro i hi1 hi2
      match i with
      | 0 => simp [Array.getD, hsz]
      | 1 => simp [Array.getD, hsz]
      | i + 2 => omega
  have e1 : cargs.getD 1 undef = .int .i64 (g : Int) := by
    generalize cargs.getD 1 undef = x at h1
    cases h1; rfl
  obtain ⟨b, o, cap, e0, hp⟩ : ∃ b o cap, cargs.getD 0 undef = .slice (some ⟨b, o, none⟩) n cap ∧ Pars w b o cap n s.par := by
    generalize cargs.getD 0 undef = x at h0
    cases h0 with
    | rd0 => omega
    | rd gv hb hcap hnm hl hc hv' =>
      refine ⟨_, _, _, rfl, hr.ro _ hb, fun i hi => ?_⟩
      have h2 := hc i 0 _ hi rfl
      have h3 := hv' i 0 _ hi rfl
      rw [Nat.add_zero] at h2
      rw [h2]
      generalize gv i 0 = z at h3
      cases h3; rfl
  rw [hc2, e0, e1]
  refine (depth_calls w b o cap n s.par hp g hg hn hv).mono ?_
  rintro e w' ⟨rfl, hbl⟩
  obtain ⟨q1, q2⟩ := pure_of_below (k := k) hr hbl
  exact ⟨_, G, ρ, k, _, [], rfl, ⟨rfl, rfl, rfl⟩, Nat.le_refl _, q1, .lit, q2⟩
end Go.Proofs.T
end
section
namespace Go.Proofs.T
open Go Go.AM Go.Proofs
set_option maxRecDepth 20000
variable {Γ : List (Nat × List AVal)}
structure Kinds (s : St) : Prop where
  wf : Wf s
  v0 : ∀ g c, 0 ≤ (s.sp g c).v
theorem check_perm (s : St) (hk : Kinds s) (h12 : s.ns ≤ 12) (hr : refCfg s = true) : (checkR s).Perm (checkA s) := by
  unfold checkR checkA
  rw [if_neg (by rw [hr]; simp), shapeA_eq]
  by_cases h1 : 0 < (shapesL s).length
  · rw [if_pos h1, if_pos h1]
  · rw [if_neg h1, if_neg h1]
    obtain ⟨hp, hpar⟩ := ref_ok h12 hr (by omega)
    have hpp := parts_perm s hk.wf hk.v0 hp
    have hpl : (partsL s).length = (partsA s).length := hpp.length_eq
    rw [hpl]
    by_cases h2 : 0 < (partsA s).length
    · rw [if_pos h2, if_pos h2]; exact hpp
    · rw [if_neg h2, if_neg h2]
      refine floors_perm s (floorOk s h12 hr (by omega) ?_)
      unfold partsA at h2
      simp only [List.length_append] at h2
      omega
theorem check_eq (s : St) (hq : PreOk s) (hk : Kinds s) : Pure Tryz.prog Γ 113 [.agg s.cells] (rows 3 ((checkR s).map Flt.row)) := by
  refine check (depthOk Γ) s hq (checkR s) (fun h => ?_) (fun h1 h2 h3 => ?_) (fun h => ?_) (fun h => ?_) (fun h => ?_)
  · rw [checkR, ← cfg_eq, if_pos h]
  · rw [cfg_eq] at h1
    rw [shapeA_eq] at h2
    refine floorOk s hq.n12 h1 h2 ?_
    unfold partsA at h3
    simp only [List.length_append] at h3
    omega
  · rw [cfg_eq] at h
    intro f hf
    exact checkR_ok s hq.sm f ((check_perm s hk hq.n12 h).mem_iff.2 hf)
  · rw [cfg_eq] at h
    exact check_perm s hk hq.n12 h
  · exact (checkR_sorted s).imp fun {x y} hxy => (cfF_ge y x).2 hxy
theorem small_pre {s : St} (h : SmallP s) : PreOk s := by
  obtain ⟨h1, h2, h3, h4, h5, h6, h7⟩ := h
  exact ⟨⟨by omega, by omega, by omega, by omega, by omega, fun g hg => by have := h7 g hg; omega⟩, h6, h7⟩
theorem check_ref' (s : St) (hq : PreOk s) (hk : Kinds s) : Pure Tryz.prog Γ 112 [.agg s.cells] (rows 3 ((checkR s).map Flt.row)) :=
  check_ref s hq.sm hk.wf fun h1 h2 => ref_ok hq.n12 h1 h2
theorem checkR_len (s : St) (hq : PreOk s) : (checkR s).length ≤ 100000 := by
  unfold checkR
  by_cases hr : refCfg s = false
  · rw [if_pos hr]; simp
  rw [if_neg hr]
  have hr' : refCfg s = true := by simpa using hr
  have hc := (refCfg_spec hr').1.2.1
  have := hq.sm.nk
  have := hq.sm.nt
  have := hq.n12
  split
  · have := shapeA_len s hq.n12
    rw [shapeA_eq] at this
    omega
  · split
    · unfold partsL
      simp only [List.length_append]
      have h1 := flats_len (f := clockAt s) (m := 1) (fun i => iff1_len1 _ _) s.nk
      have h2 := flats_len (f := brkR s) (m := s.nt) (fun r => by have := flats_len (f := brkAt s r) (m := 1) (fun i => iff1_len1 _ _) s.nt; unfold brkR; omega) 7
      have h3 := flats_len' (f := sptR s) (m := 12) s.ns (fun g hg => by
        have := flats_len (f := sptAt s g) (m := 1) (fun i => iff1_len1 _ _) (s.nsp g)
        have := hq.p12 g hg
        unfold sptR; split
        · simp
        · omega)
      have h4 := flats_len (f := rootAt s) (m := 1) (fun i => iff1_len1 _ _) s.cpus.toNat
      have h5 := flats_len (f := curAt s) (m := 1) (fun i => iff1_len1 _ _) s.cpus.toNat
      omega
    · have h1 := flats_len (f := flrR s) (m := 64) (fun g => by have := flats_len (f := flrAt s g) (m := 1) (fun i => iff1_len1 _ _) s.cpus.toNat; unfold flrR; omega) s.ns
      unfold floorsL; omega
end Go.Proofs.T
end
section
namespace Go.Proofs.T
open Go Go.AM Go.Proofs
set_option maxRecDepth 20000
variable {Γ : List (Nat × List AVal)}
def pf (s : St) (i : Nat) : List AVal := [.lit (.int .i64 (s.par i))]
attribute [go_sem] pf
def parL (s : St) (i : Nat) : List (List AVal) := (List.range i).map (pf s)
theorem parL_zero (s : St) : parL s 0 = [] := rfl
theorem parL_succ (s : St) (i : Nat) : parL s (i + 1) = parL s i ++ [pf s i] := range_snoc
theorem parL_len (s : St) (i : Nat) : (parL s i).length = i := by simp [parL]
attribute [go_sem] parL_len
theorem parents (s : St) (n : Nat) (hn : n ≤ 1000) : Pure Tryz.prog Γ 115 [.rd 2 n (gf s)] (.rd 1 n (pf s)) := by
  refine Pure_at Tryz.func115 rfl 19 rfl (Nat.le_of_ble_eq_true rfl) rfl fun k => ?_
  have kp : Kp [0,2,3,5,6,7,8,9] (fun i => i - k) := kpI
  refine wl ?_ <;> and_intros <;> first | exact hdT | (apply zM; (repeat intro ht); apply zM; (repeat intro hg); apply zM)
  refine M_forO (X := Nat) rfl [0,2,3,5,6,7,8,9] (k + 1) (fun i => [(8, .lit (.int .i64 (i : Int))), (3, accV k (parL s i))]) (fun i => accH k 1 (parL s i) []) (fun i => i ≤ n) (fun i => n - i) 0 ?_ (Nat.zero_le _) ?_
  · rw [parL_zero]
    refine rR ?_ <;> first | exact hdT | apply zN
    exact wkF
  intro i hi
  refine rR ?_ <;> first | exact hdT | apply zN
  refine wl ?_ <;> and_intros <;> first | exact hdT | (apply zM; (repeat intro ht); apply zM; (repeat intro hg); apply zM)
  · refine ⟨i + 1, by omega, by omega, ?_⟩
    rw [parL_succ]
    refine rR ?_ <;> first | exact hdT | apply zN
    exact Mv.app (k + 3) (k) ⟨by omega, by omega⟩ ⟨by omega, by omega⟩ (wk_low (by omega) (by simp -dsimp -implicitDefEqProofs only [go_sem, List.map_append, Flt.row, eq_self, ↓reduceIte]) (by simp -dsimp -implicitDefEqProofs only [go_sem, List.map_append, Flt.row, eq_self, ↓reduceIte]) (by simp -dsimp -implicitDefEqProofs only [go_sem, List.map_append, Flt.row, eq_self, ↓reduceIte]) (by simp -dsimp -implicitDefEqProofs only [go_sem, List.map_append, Flt.row, eq_self, ↓reduceIte]))
  · have hi' : i = n := by omega
    subst hi'
    refine M_racc rfl (id := k) (s := 1) (l := parL s i) 2 (by simp -dsimp -implicitDefEqProofs only [go_sem, List.map_append, Flt.row, eq_self, ↓reduceIte]) (by simp -dsimp -implicitDefEqProofs only [go_sem, List.map_append, Flt.row, eq_self, ↓reduceIte]) ?_
    refine ⟨_, rfl, ?_⟩
    rw [rows, parL_len]
    exact VLe.copy' _ _ _
theorem slicesEqual (n m : Nat) (f g : Nat → Int) (hn : n ≤ 1000) (hm : m ≤ 1000) : Pure Tryz.prog Γ 114 [.rd 1 n (fun i => [.lit (.int .i64 (f i))]), .rd 1 m (fun i => [.lit (.int .i64 (g i))])] (.lit (.bool (decide (n = m ∧ ∀ i, i < n → f i = g i)))) := by
  refine Pure_at Tryz.func114 rfl 26 rfl (Nat.le_of_ble_eq_true rfl) rfl fun k => ?_
  have kp : Kp [0,1,4,5,10,12,13,14,24] (fun i => i - k) := kpI
  refine wl ?_ <;> and_intros <;> first | exact hdT | (apply zM; (repeat intro ht); apply zM; (repeat intro hg); apply zM)
  · refine C_ret rfl ⟨_, rfl, VLe.of_eq ?_⟩
    rw [decide_eq_false (by rintro ⟨h1, _⟩; omega)]
  refine M_forO (X := Nat) rfl [0,1,4,5,10,12,13,14,24] k (fun i => [(13, .lit (.int .i64 (i : Int)))]) (fun i => []) (fun i => i ≤ n ∧ ∀ j, j < i → f j = g j) (fun i => n - i) 0 ?_ ⟨Nat.zero_le _, fun j hj => absurd hj (Nat.not_lt_zero _)⟩ ?_
  · refine rR ?_ <;> first | exact hdT | apply zN
    exact wkF
  rintro i ⟨hi, hall⟩
  refine rR ?_ <;> first | exact hdT | apply zN
  refine wl ?_ <;> and_intros <;> first | exact hdT | (apply zM; (repeat intro ht); apply zM; (repeat intro hg); apply zM)
  · refine C_ret rfl ⟨_, rfl, VLe.of_eq ?_⟩
    rw [decide_eq_false (by rintro ⟨h1, h2⟩; have := h2 i (by omega); omega)]
  · refine ⟨i + 1, ⟨by omega, fun j hj => ?_⟩, by omega, ?_⟩
    · by_cases he : j = i
      · subst he; omega
      · exact hall j (by omega)
    · refine rR ?_ <;> first | exact hdT | apply zN
      exact wkF
  · refine C_ret rfl ⟨_, rfl, VLe.of_eq ?_⟩
    rw [decide_eq_true (by refine ⟨by omega, fun j hj => hall j (by omega)⟩)]
end Go.Proofs.T
end
section
namespace Go.Proofs.T
open Go Go.AM Go.Proofs
set_option maxRecDepth 20000
variable {Γ : List (Nat × List AVal)}
theorem VLe.tups {us vs : List AVal} (h : VLes us vs) : VLe (.tup us) (.tup vs) := fun w G ρ A cv hv => by
  obtain ⟨h1, h2⟩ := h.spec
  cases hv with
  | tup h3 h4 =>
    refine .tup (by omega) fun j v hj => ?_
    have hlt := (List.getElem?_eq_some_iff.1 hj).1
    have hu : us[j]? = some us[j] := List.getElem?_eq_getElem (by omega)
    exact h2 j _ v hu hj _ _ _ _ _ (h4 j _ hu)
def alB (a b : St) (i : Nat) : Bool := decide (a.cpus = b.cpus ∧ a.credit = b.credit ∧ a.ng = b.ng ∧ ∀ g, g < i → a.par g = b.par g)
def backAt (a b : St) (c : Nat) : List Flt := iff1 (decide (b.clk c < a.clk c)) ⟨15, (c : Int), 0⟩
def fellAt (a b : St) (g c : Nat) : List Flt := iff1 (decide ((b.sp g c).floor < (a.sp g c).floor)) ⟨16, (g : Int), (c : Int)⟩
def fellR (a b : St) (g : Nat) : List Flt := flats (fellAt a b g) (a.nsp g)
def movesL (a b : St) : List Flt := flats (backAt a b) a.nk ++ flats (fellR a b) a.ns
def badP (a b : St) : Prop := 0 < (checkR a).length ∨ 0 < (checkR b).length
instance (a b : St) : Decidable (badP a b) := by unfold badP; infer_instance
def stepF2 (a b : St) : List Flt := if badP a b then [] else if alB a b a.ng = false then [⟨17, 0, 0⟩] else movesL a b
def stepE2 (a b : St) : Int := if badP a b then 320 else 0
theorem checkR_nil {s : St} (h : (checkR s).length = 0) : refCfg s = true ∧ (shapesL s).length = 0 := by
  unfold checkR at h
  by_cases h1 : refCfg s = false
  · rw [if_pos h1] at h; simp at h
  · rw [if_neg h1] at h
    refine ⟨by simpa using h1, ?_⟩
    split at h <;> omega
structure Alike (a b : St) : Prop where
  nk : b.nk = a.nk
  ns : b.ns = a.ns
  nsp : ∀ g, g < a.ns → b.nsp g = a.nsp g
theorem alike_of {a b : St} (ha : (checkR a).length = 0) (hb : (checkR b).length = 0) (hal : alB a b a.ng = true) : Alike a b := by
  obtain ⟨_, ha⟩ := checkR_nil ha
  obtain ⟨_, hb⟩ := checkR_nil hb
  obtain ⟨h1, h2, h3, h4⟩ := shapes_nil ha
  obtain ⟨k1, k2, k3, k4⟩ := shapes_nil hb
  simp only [alB, decide_eq_true_eq] at hal
  obtain ⟨e1, _, e3, _⟩ := hal
  exact ⟨by omega, by omega, fun g hg => by have := h4 g hg; have := k4 g (by omega); omega⟩
theorem movesL_len {a b : St} (hq : PreOk a) : (movesL a b).length ≤ 2000 := by
  have h1 := flats_len (f := backAt a b) (m := 1) (fun i => iff1_len1 _ _) a.nk
  have h2 := flats_len' (f := fellR a b) (m := 12) a.ns (fun g hg => by have := flats_len (f := fellAt a b g) (m := 1) (fun i => iff1_len1 _ _) (a.nsp g); have := hq.p12 g hg; unfold fellR; omega)
  have := hq.sm.nk
  have := hq.n12
  unfold movesL; rw [List.length_append]; omega
set_option maxHeartbeats 4000000 in
theorem step_ref (a b : St) (hq : PreOk a) (hq' : PreOk b) (hk : Kinds a) (hk' : Kinds b) : Pure Tryz.prog Γ 49 [.agg a.cells, .agg b.cells] (.tup [rows 3 ((stepF2 a b).map Flt.row), .lit (.int .i64 (stepE2 a b))]) := by
  obtain ⟨⟨hng, hnk, hnu, hnt, hns, hnsp⟩, h12, hp12⟩ := id hq
  obtain ⟨⟨hng', hnk', hnu', hnt', hns', hnsp'⟩, h12', hp12'⟩ := id hq'
  refine Pure_at Tryz.func49 rfl 145 rfl (Nat.le_of_ble_eq_true rfl) rfl fun k => ?_
  obtain ⟨R, eR⟩ : ∃ R, R = (stepF2 a b).map Flt.row := ⟨_, rfl⟩
  obtain ⟨E, eE⟩ : ∃ E, E = stepE2 a b := ⟨_, rfl⟩
  rw [← eR, ← eE]
  have kp : Kp [0,1,2,3,4,5,6,7,8,9,10,11,21,57,76,83,96,106,116,137] (fun i => i - k) := kpI
  refine wl ?_ <;> and_intros <;> first | exact hdT | (apply zM; (repeat intro ht); apply zM; (repeat intro hg); apply zM)
  refine cl [.ret (.rd 3 (checkR a).length (fun j => ((checkR a).map Flt.row).getD j [])), .ret (.rd 3 (checkR b).length (fun j => ((checkR b).map Flt.row).getD j []))] ?_ <;> and_intros <;> first | exact hdT | (apply zM; (repeat intro ht); apply zM; (repeat intro hg); apply zM)
  · have h := check_ref' (Γ := Γ) a hq hk
    rw [rows, List.length_map] at h
    exact h
  · have h := check_ref' (Γ := Γ) b hq' hk'
    rw [rows, List.length_map] at h
    exact h
  · have ha : (checkR a).length = 0 := by omega
    refine C_cond rfl _ rfl (fun ht => ?_) (fun hf => ?_)
    · have hbad : badP a b := .inr (by simp only [decide_eq_true_eq] at ht; omega)
      refine wl ?_ <;> and_intros <;> first | exact hdT | (apply zM; (repeat intro ht); apply zM; (repeat intro hg); apply zM)
      refine C_ret rfl ⟨_, rfl, ?_⟩
      rw [eR, eE, stepF2, stepE2, if_pos hbad, if_pos hbad]
      exact VLe.tups (.cons (VLe.nil _ _) (.cons (VLe.refl _) .nil))
    · have hb : (checkR b).length = 0 := by simp only [decide_eq_false_iff_not] at hf; omega
      have hnb : ¬ badP a b := by unfold badP; omega
      have hE : E = 0 := by rw [eE, stepE2, if_neg hnb]
      have hRr : R = (if alB a b a.ng = false then [⟨17, 0, 0⟩] else movesL a b).map Flt.row := by rw [eR, stepF2, if_neg hnb]
      clear eR eE
      subst hE
      refine C_skip rfl ?_; simp -dsimp -implicitDefEqProofs only [go_sem, eq_self, ↓reduceIte]
      refine M_midO (X := Bool) rfl [0,1,2,3,4,5,6,7,8,9,10,11,21,57,76,83,96,106,116,137] (k + 2) (fun x => [(6, .lit (.bool x))]) (fun x => [(k + 1, ⟨7, true, [b.cells]⟩), (k, ⟨7, true, [a.cells]⟩)]) (fun x => x = alB a b 0) ?_ ?_
      · refine wl ?_ <;> and_intros <;> first | exact hdT | (apply zM; (repeat intro ht); apply zM; (repeat intro hg); apply zM)
        · refine ⟨((a.ng : Int) == (b.ng : Int)), ?_, ?_⟩
          · rw [Bool.eq_iff_iff, beq_iff_eq, alB, decide_eq_true_eq]
            exact ⟨fun h => ⟨by assumption, by assumption, by omega, fun g hg => absurd hg (Nat.not_lt_zero _)⟩, fun h => by omega⟩
          · exact wkF
        · refine ⟨false, ?_, ?_⟩
          · rw [alB, decide_eq_false]
            rintro ⟨h1, h2, _⟩; contradiction
          · exact wkF
        · refine ⟨false, ?_, ?_⟩
          · rw [alB, decide_eq_false]
            rintro ⟨h1, h2, _⟩; contradiction
          · exact wkF
      · rintro x rfl
        refine rR ?_ <;> first | exact hdT | apply zN
        refine wl ?_ <;> and_intros <;> first | exact hdT | (apply zM; (repeat intro ht); apply zM; (repeat intro hg); apply zM)
        refine M_forO (X := Nat) rfl [0,1,2,3,4,5,6,7,8,9,10,11,21,57,76,83,96,106,116,137] (k + 2) (fun i => [(7, .lit (.int .i64 (i : Int))), (6, .lit (.bool (alB a b i)))]) (fun i => [(k + 1, ⟨7, true, [b.cells]⟩), (k, ⟨7, true, [a.cells]⟩)]) (fun i => i ≤ a.ng) (fun i => a.ng - i) 0 ?_ (Nat.zero_le _) ?_
        · refine rR ?_ <;> first | exact hdT | apply zN
          exact wkF
        intro i hi
        refine rR ?_ <;> first | exact hdT | apply zN
        by_cases hal : alB a b i = true
        · have hal' := hal
          rw [alB, decide_eq_true_eq] at hal'
          obtain ⟨e1, e2, e3, e4⟩ := hal'
          have uU := @hal
          refine wl ?_ <;> and_intros <;> first | exact hdT | (apply zM; (repeat intro ht); apply zM; (repeat intro hg); apply zM)
          · refine ⟨i + 1, by omega, by omega, ?_⟩
            have hx : alB a b (i + 1) = (a.par i == b.par i) := by
              rw [Bool.eq_iff_iff, beq_iff_eq, alB, decide_eq_true_eq]
              exact ⟨fun h => h.2.2.2 i (by omega), fun h => ⟨e1, e2, e3, fun g hg => by
                by_cases he : g = i
                · subst he; exact h
                · exact e4 g (by omega)⟩⟩
            rw [hx]
            refine rR ?_ <;> first | exact hdT | apply zN
            (have uU := @hal; exact wkU)
          · have hin : i = a.ng := by omega
            subst hin
            have hall : alB a b a.ng = true := hal
            rw [if_neg (by rw [hall]; simp)] at hRr
            obtain ⟨gnk, gns, gnsp⟩ := alike_of ha hb hall
            refine M_forO (X := Nat) rfl [0,1,2,3,4,5,6,7,8,9,10,11,21,57,76,83,96,106,116,137] (k + 3) (fun c => [(9, .lit (.int .i64 (c : Int))), (8, accV (k + 2) ((flats (backAt a b) c).map Flt.row))]) (fun c => accH (k + 2) 3 ((flats (backAt a b) c).map Flt.row) [(k + 1, ⟨7, true, [b.cells]⟩), (k, ⟨7, true, [a.cells]⟩)]) (fun c => c ≤ a.nk) (fun c => a.nk - c) 0 ?_ (Nat.zero_le _) ?_
            · rw [flats_zero, List.map_nil]
              have uU := Go.AM.uU
              refine rR ?_ <;> first | exact hdT | apply zN
              exact wkF
            intro c hc
            have hfl := flats_len (f := backAt a b) (m := 1) (fun c => iff1_len1 _ _) c
            obtain ⟨l1, e1, h1⟩ : ∃ x, x = flats (backAt a b) c ∧ x.length ≤ c := ⟨_, rfl, by omega⟩
            rw [← e1]
            have hsucc : flats (backAt a b) (c + 1) = l1 ++ backAt a b c := by rw [e1]; rfl
            have uU := Go.AM.uU
            refine rR ?_ <;> first | exact hdT | apply zN
            refine wl ?_ <;> and_intros <;> first | exact hdT | (apply zM; (repeat intro ht); apply zM; (repeat intro hg); apply zM)
            · refine ⟨c + 1, by omega, by omega, ?_⟩
              rw [hsucc, show backAt a b c = [⟨15, (c : Int), 0⟩] by rw [backAt, decide_eq_true (by omega)]; rfl]
              refine rR ?_ <;> first | exact hdT | apply zN
              exact Mv.app (k + 4) (k + 2) ⟨by omega, by omega⟩ ⟨by omega, by omega⟩ (wk_low (by omega) (by simp -dsimp -implicitDefEqProofs only [go_sem, List.map_append, Flt.row, eq_self, ↓reduceIte]) (by simp -dsimp -implicitDefEqProofs only [go_sem, List.map_append, Flt.row, eq_self, ↓reduceIte]) (by simp -dsimp -implicitDefEqProofs only [go_sem, List.map_append, Flt.row, eq_self, ↓reduceIte]) (by simp -dsimp -implicitDefEqProofs only [go_sem, List.map_append, Flt.row, eq_self, ↓reduceIte]))
            · refine ⟨c + 1, by omega, by omega, ?_⟩
              rw [hsucc, show backAt a b c = [] by rw [backAt, decide_eq_false (by omega)]; rfl, List.append_nil]
              refine rR ?_ <;> first | exact hdT | apply zN
              exact wkF
            have hcn : c = a.nk := by omega
            subst hcn
            clear hsucc hfl
            refine M_forO (X := Nat) rfl [0,1,2,3,4,5,6,7,8,9,10,11,21,57,76,83,96,106,116,137] (k + 3) (fun g => [(10, .lit (.int .i64 (g : Int))), (8, accV (k + 2) ((l1 ++ flats (fellR a b) g).map Flt.row))]) (fun g => accH (k + 2) 3 ((l1 ++ flats (fellR a b) g).map Flt.row) [(k + 1, ⟨7, true, [b.cells]⟩), (k, ⟨7, true, [a.cells]⟩)]) (fun g => g ≤ a.ns) (fun g => a.ns - g) 0 ?_ (Nat.zero_le _) ?_
            · rw [flats_zero, List.append_nil]
              refine rR ?_ <;> first | exact hdT | apply zN
              exact wkF
            intro g hg2
            have hfl := flats_len' (f := fellR a b) (m := 12) g (fun g' hg' => by have := flats_len (f := fellAt a b g') (m := 1) (fun i => iff1_len1 _ _) (a.nsp g'); have := hp12 g' (by omega); unfold fellR; omega)
            obtain ⟨l2, e2', h2⟩ : ∃ x, x = l1 ++ flats (fellR a b) g ∧ x.length ≤ l1.length + g * 12 := ⟨_, rfl, by simp; omega⟩
            rw [← e2']
            have hsucc2 : l1 ++ flats (fellR a b) (g + 1) = l2 ++ flats (fellAt a b g) (a.nsp g) := by rw [e2', flats_succ, List.append_assoc]; rfl
            refine rR ?_ <;> first | exact hdT | apply zN
            refine wl ?_ <;> and_intros <;> first | exact hdT | (apply zM; (repeat intro ht); apply zM; (repeat intro hg); apply zM)
            · have hpg : a.nsp g ≤ 12 := hp12 g (by omega)
              have hpg' : b.nsp g = a.nsp g := gnsp g (by omega)
              refine M_forO (X := Nat) rfl [0,1,2,3,4,5,6,7,8,9,10,11,21,57,76,83,96,106,116,137] (k + 3) (fun c => [(11, .lit (.int .i64 (c : Int))), (8, accV (k + 2) ((l2 ++ flats (fellAt a b g) c).map Flt.row))]) (fun c => accH (k + 2) 3 ((l2 ++ flats (fellAt a b g) c).map Flt.row) [(k + 1, ⟨7, true, [b.cells]⟩), (k, ⟨7, true, [a.cells]⟩)]) (fun c => c ≤ a.nsp g) (fun c => a.nsp g - c) 0 ?_ (Nat.zero_le _) ?_
              · rw [flats_zero, List.append_nil]
                refine rR ?_ <;> first | exact hdT | apply zN
                exact wkF
              intro c hc
              have hfi := flats_len (f := fellAt a b g) (m := 1) (fun i => iff1_len1 _ _) c
              obtain ⟨l3, e3', h3⟩ : ∃ x, x = l2 ++ flats (fellAt a b g) c ∧ x.length ≤ l2.length + c := ⟨_, rfl, by simp; omega⟩
              rw [← e3']
              have hsucc3 : l2 ++ flats (fellAt a b g) (c + 1) = l3 ++ fellAt a b g c := by rw [e3', flats_succ, List.append_assoc]
              refine rR ?_ <;> first | exact hdT | apply zN
              refine wl ?_ <;> and_intros <;> first | exact hdT | (apply zM; (repeat intro ht); apply zM; (repeat intro hg); apply zM)
              · refine ⟨c + 1, by omega, by omega, ?_⟩
                rw [hsucc3, show fellAt a b g c = [⟨16, (g : Int), (c : Int)⟩] by rw [fellAt, decide_eq_true (by omega)]; rfl]
                refine rR ?_ <;> first | exact hdT | apply zN
                exact Mv.app (k + 4) (k + 2) ⟨by omega, by omega⟩ ⟨by omega, by omega⟩ (wk_low (by omega) (by simp -dsimp -implicitDefEqProofs only [go_sem, List.map_append, Flt.row, eq_self, ↓reduceIte]) (by simp -dsimp -implicitDefEqProofs only [go_sem, List.map_append, Flt.row, eq_self, ↓reduceIte]) (by simp -dsimp -implicitDefEqProofs only [go_sem, List.map_append, Flt.row, eq_self, ↓reduceIte]) (by simp -dsimp -implicitDefEqProofs only [go_sem, List.map_append, Flt.row, eq_self, ↓reduceIte]))
              · refine ⟨c + 1, by omega, by omega, ?_⟩
                rw [hsucc3, show fellAt a b g c = [] by rw [fellAt, decide_eq_false (by omega)]; rfl, List.append_nil]
                refine rR ?_ <;> first | exact hdT | apply zN
                exact wkF
              · have hcn : c = a.nsp g := by omega
                refine ⟨g + 1, by omega, by omega, ?_⟩
                rw [hsucc2, ← hcn, ← e3']
                refine rR ?_ <;> first | exact hdT | apply zN
                exact wkF
            · have hgn : g = a.ns := by omega
              subst hgn
              have hl2 : movesL a b = l2 := by rw [e2', e1]; rfl
              rw [hl2] at hRr
              refine W_mv (Mv.wk (fr1 := [(4, accV (k + 2) (l2.map Flt.row)), (5, .lit (.int .i64 0))]) (k1 := k + 3) (H1 := accH (k + 2) 3 (l2.map Flt.row) [(k + 1, ⟨7, true, [b.cells]⟩), (k, ⟨7, true, [a.cells]⟩)]) (wk_low (by omega) (by simp -dsimp -implicitDefEqProofs only [go_sem, List.map_append, Flt.row, eq_self, ↓reduceIte]) (by simp -dsimp -implicitDefEqProofs only [go_sem, List.map_append, Flt.row, eq_self, ↓reduceIte]) (by simp -dsimp -implicitDefEqProofs only [go_sem, List.map_append, Flt.row, eq_self, ↓reduceIte]) (by simp -dsimp -implicitDefEqProofs only [go_sem, List.map_append, Flt.row, eq_self, ↓reduceIte]))) ?_
              refine W_mv (Mv.frz_at (id := k + 2) (s := 3) (l := l2.map Flt.row) 4 (rows 3 (l2.map Flt.row)) [(k + 1, ⟨7, true, [b.cells]⟩), (k, ⟨7, true, [a.cells]⟩)] (by simp -dsimp -implicitDefEqProofs only [go_sem, List.map_append, Flt.row, eq_self, ↓reduceIte]) (by simp -dsimp -implicitDefEqProofs only [go_sem, List.map_append, Flt.row, eq_self, ↓reduceIte]) (VLe.refl _) (by simp -dsimp -implicitDefEqProofs only [go_sem, List.map_append, Flt.row, eq_self, ↓reduceIte]) (by simp -dsimp -implicitDefEqProofs only [go_sem, List.map_append, Flt.row, eq_self, ↓reduceIte])) ?_
              refine rR ?_ <;> first | exact hdT | apply zN
              refine C_ret rfl ⟨_, rfl, ?_⟩
              rw [hRr]
              exact VLe.refl _
        · rw [Bool.not_eq_true] at hal
          have hall : alB a b a.ng = false := by
            cases hx : alB a b a.ng with
            | false => rfl
            | true =>
              simp only [alB, decide_eq_true_eq, decide_eq_false_iff_not] at hal hx
              exact absurd ⟨hx.1, hx.2.1, hx.2.2.1, fun g hg => hx.2.2.2 g (by omega)⟩ hal
          rw [if_pos hall] at hRr
          have uU := @hal
          refine wl ?_ <;> and_intros <;> first | exact hdT | (apply zM; (repeat intro ht); apply zM; (repeat intro hg); apply zM)
          refine W_mv (Mv.frz_at (id := k + 2) (s := 3) (l := [Flt.row ⟨17, 0, 0⟩]) 4 (rows 3 [Flt.row ⟨17, 0, 0⟩]) [(k + 1, ⟨7, true, [b.cells]⟩), (k, ⟨7, true, [a.cells]⟩)] (by simp -dsimp -implicitDefEqProofs only [go_sem, List.map_append, Flt.row, eq_self, ↓reduceIte]) (by simp -dsimp -implicitDefEqProofs only [go_sem, List.map_append, Flt.row, eq_self, ↓reduceIte]) (VLe.refl _) (by simp -dsimp -implicitDefEqProofs only [go_sem, List.map_append, Flt.row, eq_self, ↓reduceIte]) (by simp -dsimp -implicitDefEqProofs only [go_sem, List.map_append, Flt.row, eq_self, ↓reduceIte])) ?_
          have uU := Go.AM.uU
          refine rR ?_ <;> first | exact hdT | apply zN
          refine C_ret rfl ⟨_, rfl, ?_⟩
          rw [hRr]
          exact VLe.refl _
  · have hbad : badP a b := .inl (by omega)
    refine wl ?_ <;> and_intros <;> first | exact hdT | (apply zM; (repeat intro ht); apply zM; (repeat intro hg); apply zM)
    refine C_ret rfl ⟨_, rfl, ?_⟩
    rw [eR, eE, stepF2, stepE2, if_pos hbad, if_pos hbad]
    exact VLe.tups (.cons (VLe.nil _ _) (.cons (VLe.refl _) .nil))
end Go.Proofs.T
end
section
namespace Go.Proofs.T
open Go Go.AM Go.Proofs
set_option maxRecDepth 20000
variable {Γ : List (Nat × List AVal)}
def zSt : St := ⟨0, 0, 0, fun _ => 0, fun _ => 0, 0, fun _ => 0, 0, fun _ => 0, 0, fun _ => ⟨0, 0, 0, 0, 0, false, 0, 0⟩, 0, fun _ => 0, fun _ _ => ⟨0, 0, 0⟩⟩
theorem moves_sorted (a b : St) : (movesL a b).Pairwise leF := by
  unfold movesL
  refine ap_sorted (col_sorted fun i => rfl) (flats_sorted (fun g _ => row_sorted fun i => rfl) fun i j hij _ x hx y hy => ?_) fun x hx y hy => ?_
  · obtain ⟨c, _, hx⟩ := mem_flats.1 hx
    obtain ⟨_, rfl⟩ := mem_iff1.1 hx
    obtain ⟨c', _, hy⟩ := mem_flats.1 hy
    obtain ⟨_, rfl⟩ := mem_iff1.1 hy
    exact leF_a rfl (by simp only; omega)
  · obtain ⟨c, _, hx⟩ := mem_flats.1 hx
    obtain ⟨_, rfl⟩ := mem_iff1.1 hx
    obtain ⟨g, _, hy⟩ := mem_flats.1 hy
    obtain ⟨c', _, hy⟩ := mem_flats.1 hy
    obtain ⟨_, rfl⟩ := mem_iff1.1 hy
    exact leF_r (by simp)
theorem moves_ok (a b : St) (hs : a.Small) : ∀ f ∈ movesL a b, f.ok := fun x hx => by
  unfold movesL at hx
  rcases List.mem_append.1 hx with hx | hx
  · obtain ⟨c, hc, hx⟩ := mem_flats.1 hx
    obtain ⟨_, rfl⟩ := mem_iff1.1 hx
    have := hs.nk
    unfold Flt.ok; simp only; omega
  · obtain ⟨g, hg, hx⟩ := mem_flats.1 hx
    obtain ⟨c, hc, hx⟩ := mem_flats.1 hx
    obtain ⟨_, rfl⟩ := mem_iff1.1 hx
    have := hs.ns
    have := hs.nsp g hg
    unfold Flt.ok; simp only; omega
set_option maxHeartbeats 4000000 in
theorem step (a b : St) (hq : PreOk a) (hq' : PreOk b) (hk : Kinds a) (hk' : Kinds b) : Pure Tryz.prog Γ 51 [.agg a.cells, .agg b.cells] (.tup [rows 3 ((stepF2 a b).map Flt.row), .lit (.int .i64 (stepE2 a b))]) := by
  obtain ⟨⟨hng, hnk, hnu, hnt, hns, hnsp⟩, h12, hp12⟩ := id hq
  obtain ⟨⟨hng', hnk', hnu', hnt', hns', hnsp'⟩, h12', hp12'⟩ := id hq'
  have hla := checkR_len a hq
  have hlb := checkR_len b hq'
  refine Pure_at Tryz.func51 rfl 108 rfl (Nat.le_of_ble_eq_true rfl) rfl fun k => ?_
  obtain ⟨R, eR⟩ : ∃ R, R = (stepF2 a b).map Flt.row := ⟨_, rfl⟩
  obtain ⟨E, eE⟩ : ∃ E, E = stepE2 a b := ⟨_, rfl⟩
  rw [← eR, ← eE]
  have kp : Kp [0,1,2,3,4,5,6,7,8,9,10,11,19,47,54,55,56,74,75,76,77,81,82,83,84] (fun i => i - k) := kpI
  refine wl ?_ <;> and_intros <;> first | exact hdT | (apply zM; (repeat intro ht); apply zM; (repeat intro hg); apply zM)
  refine dl [.ret (.rd 3 (checkR a).length (fun j => ((checkR a).map Flt.row).getD j [])), .ret (.rd 3 (checkR b).length (fun j => ((checkR b).map Flt.row).getD j []))] ?_ <;> and_intros <;> first | exact hdT | (apply zM; (repeat intro ht); apply zM; (repeat intro hg); apply zM)
  · have h := check_eq (Γ := Γ) a hq hk
    rw [rows, List.length_map] at h
    exact h
  · have h := check_eq (Γ := Γ) b hq' hk'
    rw [rows, List.length_map] at h
    exact h
  refine C_cond rfl _ rfl (fun ht => ?_) (fun hf => ?_)
  · have hbad : badP a b := by simp only [decide_eq_true_eq] at ht; unfold badP; omega
    refine wl ?_ <;> and_intros <;> first | exact hdT | (apply zM; (repeat intro ht); apply zM; (repeat intro hg); apply zM)
    refine C_ret rfl ⟨_, rfl, ?_⟩
    rw [eR, eE, stepF2, stepE2, if_pos hbad, if_pos hbad]
    exact VLe.tups (.cons (VLe.nil _ _) (.cons (VLe.refl _) .nil))
  · have hnb : ¬ badP a b := by simp only [decide_eq_false_iff_not] at hf; unfold badP; omega
    have ha : (checkR a).length = 0 := by unfold badP at hnb; omega
    have hb : (checkR b).length = 0 := by unfold badP at hnb; omega
    have hE : E = 0 := by rw [eE, stepE2, if_neg hnb]
    have hRr : R = (if alB a b a.ng = false then [⟨17, 0, 0⟩] else movesL a b).map Flt.row := by rw [eR, stepF2, if_neg hnb]
    clear eR eE
    subst hE
    refine C_skip rfl ?_; simp -dsimp -implicitDefEqProofs only [go_sem, eq_self, ↓reduceIte]
    refine C_seq rfl ?_
    refine M_midO (X := Bool) rfl [0,1,2,3,4,5,6,7,8,9,10,11,19,47,54,55,56,74,75,76,77,81,82,83,84] (k + 2) (fun x => [(47, .lit (.bool x))]) (fun x => [(k + 1, ⟨7, true, [b.cells]⟩), (k, ⟨7, true, [a.cells]⟩)]) (fun x => x = !(alB a b a.ng)) ?_ ?_
    · refine dl [.ret (.rd 1 a.ng (pf a)), .ret (.rd 1 b.ng (pf b)), .ret (.lit (.bool (decide (a.ng = b.ng ∧ ∀ i, i < a.ng → a.par i = b.par i))))] ?_ <;> and_intros <;> first | exact hdT | (apply zM; (repeat intro ht); apply zM; (repeat intro hg); apply zM)
      · exact parents a a.ng hng
      · exact parents b b.ng hng'
      · exact slicesEqual a.ng b.ng a.par b.par hng hng'
      · refine ⟨!(decide (a.ng = b.ng ∧ ∀ i, i < a.ng → a.par i = b.par i)), ?_, ?_⟩
        · congr 1
          rw [Bool.eq_iff_iff, alB, decide_eq_true_eq, decide_eq_true_eq]
          exact ⟨fun h => ⟨by assumption, by assumption, h.1, h.2⟩, fun h => h.2.2⟩
        · exact wkF
      · refine ⟨true, ?_, ?_⟩
        · rw [alB, decide_eq_false]
          · rfl
          · rintro ⟨h1, h2, _⟩; contradiction
        · exact wkF
      · refine ⟨true, ?_, ?_⟩
        · rw [alB, decide_eq_false]
          · rfl
          · rintro ⟨h1, h2, _⟩; contradiction
        · exact wkF
    · rintro x rfl
      refine rR ?_ <;> first | exact hdT | apply zN
      refine C_cond rfl _ rfl (fun ht => ?_) (fun hf => ?_)
      · have hall : alB a b a.ng = false := by simpa using ht
        rw [if_pos hall] at hRr
        refine wl ?_ <;> and_intros <;> first | exact hdT | (apply zM; (repeat intro ht); apply zM; (repeat intro hg); apply zM)
        refine W_mv (Mv.frz_at (id := k + 2) (s := 3) (l := [Flt.row ⟨17, 0, 0⟩]) 4 (rows 3 [Flt.row ⟨17, 0, 0⟩]) [(k + 1, ⟨7, true, [b.cells]⟩), (k, ⟨7, true, [a.cells]⟩)] (by simp -dsimp -implicitDefEqProofs only [go_sem, List.map_append, Flt.row, eq_self, ↓reduceIte]) (by simp -dsimp -implicitDefEqProofs only [go_sem, List.map_append, Flt.row, eq_self, ↓reduceIte]) (VLe.refl _) (by simp -dsimp -implicitDefEqProofs only [go_sem, List.map_append, Flt.row, eq_self, ↓reduceIte]) (by simp -dsimp -implicitDefEqProofs only [go_sem, List.map_append, Flt.row, eq_self, ↓reduceIte])) ?_
        refine rR ?_ <;> first | exact hdT | apply zN
        refine C_ret rfl ⟨_, rfl, ?_⟩
        rw [hRr]
        exact VLe.refl _
      · have hall : alB a b a.ng = true := by simpa using hf
        rw [if_neg (by rw [hall]; simp)] at hRr
        obtain ⟨gnk, gns, gnsp⟩ := alike_of ha hb hall
        refine wl ?_ <;> and_intros <;> first | exact hdT | (apply zM; (repeat intro ht); apply zM; (repeat intro hg); apply zM)
        refine W_mv (Mv.row (k + 2) (l := []) (lkRow (k + 3) zSt []) (by simp -dsimp -implicitDefEqProofs only [go_sem, List.map_append, Flt.row, eq_self, ↓reduceIte]; rfl) (.cons (VLe.refl _) (.cons (VLe.refl _) (.cons (VLe.nil _ _) (.cons (VLe.nil _ _) (.cons (VLe.nil _ _) (.cons (VLe.nil _ _) (.cons (VLe.nil _ _) (.cons (VLe.refl _) .nil)))))))) rfl) ?_
        refine rR ?_ <;> first | exact hdT | apply zN
        refine W_mv (Mv.impure (k + 2) (by simp -dsimp -implicitDefEqProofs only [go_sem, eq_self, ↓reduceIte]; rfl)) ?_
        refine rR ?_ <;> first | exact hdT | apply zN
        refine M_forO (X := Nat) rfl [0,1,2,3,4,5,6,7,8,9,10,11,19,47,54,55,56,74,75,76,77,81,82,83,84] (k + 4) (fun i => [(55, .lit (.int .i64 (i : Int)))]) (fun i => (k + 2, ⟨8, false, [lkRow (k + 3) zSt (flats (backAt a b) i)]⟩) :: accH (k + 3) 3 ((flats (backAt a b) i).map Flt.row) [(k + 1, ⟨7, true, [b.cells]⟩), (k, ⟨7, true, [a.cells]⟩)]) (fun i => i ≤ a.nk) (fun i => a.nk - i) 0 ?_ (Nat.zero_le _) ?_
        · rw [flats_zero]
          refine rR ?_ <;> first | exact hdT | apply zN
          exact wkF
        intro c hc
        have hfl := flats_len (f := backAt a b) (m := 1) (fun c => iff1_len1 _ _) c
        obtain ⟨l1, e1, h1⟩ : ∃ x, x = flats (backAt a b) c ∧ x.length ≤ c := ⟨_, rfl, by omega⟩
        rw [← e1]
        refine rR ?_ <;> first | exact hdT | apply zN
        refine wl ?_ <;> and_intros <;> first | exact hdT | (apply zM; (repeat intro ht); apply zM; (repeat intro hg); apply zM)
        · obtain ⟨l2, e_l2, h_l2⟩ : ∃ x, x = l1 ++ iff1 (decide (b.clk c < a.clk c)) ⟨15, (c : Int), 0⟩ ∧ x.length ≤ (l1).length + 1 := ⟨_, rfl, iff1_len _ _ _⟩
          refine M_cutO [0,1,2,3,4,5,6,7,8,9,10,11,19,47,54,55,56,74,75,76,77,81,82,83,84] (k + 5) [] ((k + 2, ⟨8, false, [lkRow (k + 4) zSt (l2)]⟩) :: accH (k + 4) 3 ((l2).map Flt.row) [(k + 1, ⟨7, true, [b.cells]⟩), (k, ⟨7, true, [a.cells]⟩)]) ?_ ?_
          · refine dl [.gen (.tup []) (k + 5) (LK (k + 2) (k + 3) zSt (l1)) (LK (k + 2) (k + 4) zSt (l2))] ?_ <;> and_intros <;> first | exact hdT | (apply zM; (repeat intro ht); apply zM; (repeat intro hg); apply zM)
            all_goals (first | (exact found' (k + 4) (k + 2) (k + 3) zSt (l1) (l2) _ (decide (b.clk c < a.clk c)) _ _ _ (by first | rfl | (rw [Bool.eq_iff_iff]; simp only [beq_iff_eq, bne_iff_ne, ne_eq, decide_eq_true_eq, decide_eq_false_iff_not, Bool.and_eq_true, Bool.or_eq_true, Bool.not_eq_true', beq_eq_false_iff_ne, Bool.false_eq_true, Bool.true_eq_false, true_iff, false_iff, iff_true, iff_false]; omega) | (simp [hg]; done) | (simp [hg, hq]; done) | (simp_all; done) | (simp_all; omega)) e_l2 (by omega) (by omega) (by omega) (by omega)) | (exact wkF))
          refine rR ?_ <;> first | exact hdT | apply zN
          refine wl ?_ <;> and_intros <;> first | exact hdT | (apply zM; (repeat intro ht); apply zM; (repeat intro hg); apply zM)
          refine ⟨c + 1, by omega, by omega, ?_⟩
          rw [show flats (backAt a b) (c + 1) = l2 by rw [flats_succ, ← e1, e_l2]; rfl]
          refine rR ?_ <;> first | exact hdT | apply zN
          exact Mv.app (k + 4) (k + 3) ⟨by omega, by omega⟩ ⟨by omega, by omega⟩ (wk_low (by omega) (by simp -dsimp -implicitDefEqProofs only [go_sem, List.map_append, Flt.row, eq_self, ↓reduceIte]) (by simp -dsimp -implicitDefEqProofs only [go_sem, List.map_append, Flt.row, eq_self, ↓reduceIte]) (by simp -dsimp -implicitDefEqProofs only [go_sem, List.map_append, Flt.row, eq_self, ↓reduceIte]) (by simp -dsimp -implicitDefEqProofs only [go_sem, List.map_append, Flt.row, eq_self, ↓reduceIte]))
        have hcn : c = a.nk := by omega
        subst hcn
        clear hfl
        refine M_forO (X := Nat) rfl [0,1,2,3,4,5,6,7,8,9,10,11,19,47,54,55,56,74,75,76,77,81,82,83,84] (k + 4) (fun i => [(76, .lit (.int .i64 (i : Int)))]) (fun i => (k + 2, ⟨8, false, [lkRow (k + 3) zSt (l1 ++ flats (fellR a b) i)]⟩) :: accH (k + 3) 3 ((l1 ++ flats (fellR a b) i).map Flt.row) [(k + 1, ⟨7, true, [b.cells]⟩), (k, ⟨7, true, [a.cells]⟩)]) (fun i => i ≤ a.ns) (fun i => a.ns - i) 0 ?_ (Nat.zero_le _) ?_
        · rw [flats_zero, List.append_nil]
          refine rR ?_ <;> first | exact hdT | apply zN
          exact wkF
        intro g hg2
        have hfl := flats_len' (f := fellR a b) (m := 12) g (fun g' hg' => by have := flats_len (f := fellAt a b g') (m := 1) (fun i => iff1_len1 _ _) (a.nsp g'); have := hp12 g' (by omega); unfold fellR; omega)
        obtain ⟨l2, e2, h2⟩ : ∃ x, x = l1 ++ flats (fellR a b) g ∧ x.length ≤ l1.length + g * 12 := ⟨_, rfl, by simp; omega⟩
        rw [← e2]
        refine rR ?_ <;> first | exact hdT | apply zN
        refine wl ?_ <;> and_intros <;> first | exact hdT | (apply zM; (repeat intro ht); apply zM; (repeat intro hg); apply zM)
        · have hpg : a.nsp g ≤ 12 := hp12 g (by omega)
          have hpg' : b.nsp g = a.nsp g := gnsp g (by omega)
          refine M_forO (X := Nat) rfl [0,1,2,3,4,5,6,7,8,9,10,11,19,47,54,55,56,74,75,76,77,81,82,83,84] (k + 4) (fun i => [(83, .lit (.int .i64 (i : Int)))]) (fun i => (k + 2, ⟨8, false, [lkRow (k + 3) zSt (l2 ++ flats (fellAt a b g) i)]⟩) :: accH (k + 3) 3 ((l2 ++ flats (fellAt a b g) i).map Flt.row) [(k + 1, ⟨7, true, [b.cells]⟩), (k, ⟨7, true, [a.cells]⟩)]) (fun i => i ≤ a.nsp g) (fun i => a.nsp g - i) 0 ?_ (Nat.zero_le _) ?_
          · rw [flats_zero, List.append_nil]
            refine rR ?_ <;> first | exact hdT | apply zN
            exact wkF
          intro c hc
          have hfi := flats_len (f := fellAt a b g) (m := 1) (fun i => iff1_len1 _ _) c
          obtain ⟨l3, e3, h3⟩ : ∃ x, x = l2 ++ flats (fellAt a b g) c ∧ x.length ≤ l2.length + c := ⟨_, rfl, by simp; omega⟩
          rw [← e3]
          refine rR ?_ <;> first | exact hdT | apply zN
          refine wl ?_ <;> and_intros <;> first | exact hdT | (apply zM; (repeat intro ht); apply zM; (repeat intro hg); apply zM)
          · obtain ⟨l4, e_l4, h_l4⟩ : ∃ x, x = l3 ++ iff1 (decide ((b.sp g c).floor < (a.sp g c).floor)) ⟨16, (g : Int), (c : Int)⟩ ∧ x.length ≤ (l3).length + 1 := ⟨_, rfl, iff1_len _ _ _⟩
            refine M_cutO [0,1,2,3,4,5,6,7,8,9,10,11,19,47,54,55,56,74,75,76,77,81,82,83,84] (k + 6) [] ((k + 2, ⟨8, false, [lkRow (k + 5) zSt (l4)]⟩) :: accH (k + 5) 3 ((l4).map Flt.row) [(k + 4, ⟨3, true, [sf a g c]⟩), (k + 1, ⟨7, true, [b.cells]⟩), (k, ⟨7, true, [a.cells]⟩)]) ?_ ?_
            · refine dl [.gen (.tup []) (k + 6) (LK (k + 2) (k + 3) zSt (l3)) (LK (k + 2) (k + 5) zSt (l4))] ?_ <;> and_intros <;> first | exact hdT | (apply zM; (repeat intro ht); apply zM; (repeat intro hg); apply zM)
              all_goals (first | (exact found' (k + 5) (k + 2) (k + 3) zSt (l3) (l4) _ (decide ((b.sp g c).floor < (a.sp g c).floor)) _ _ _ (by first | rfl | (rw [Bool.eq_iff_iff]; simp only [beq_iff_eq, bne_iff_ne, ne_eq, decide_eq_true_eq, decide_eq_false_iff_not, Bool.and_eq_true, Bool.or_eq_true, Bool.not_eq_true', beq_eq_false_iff_ne, Bool.false_eq_true, Bool.true_eq_false, true_iff, false_iff, iff_true, iff_false]; omega) | (simp [hg]; done) | (simp [hg, hq]; done) | (simp_all; done) | (simp_all; omega)) e_l4 (by omega) (by omega) (by omega) (by omega)) | (exact wkF))
            refine rR ?_ <;> first | exact hdT | apply zN
            refine wl ?_ <;> and_intros <;> first | exact hdT | (apply zM; (repeat intro ht); apply zM; (repeat intro hg); apply zM)
            refine ⟨c + 1, by omega, by omega, ?_⟩
            rw [show l2 ++ flats (fellAt a b g) (c + 1) = l4 by rw [flats_succ, ← List.append_assoc, ← e3, e_l4]; rfl]
            refine rR ?_ <;> first | exact hdT | apply zN
            exact Mv.app (k + 5) (k + 3) ⟨by omega, by omega⟩ ⟨by omega, by omega⟩ (wk_low (by omega) (by simp -dsimp -implicitDefEqProofs only [go_sem, List.map_append, Flt.row, eq_self, ↓reduceIte]) (by simp -dsimp -implicitDefEqProofs only [go_sem, List.map_append, Flt.row, eq_self, ↓reduceIte]) (by simp -dsimp -implicitDefEqProofs only [go_sem, List.map_append, Flt.row, eq_self, ↓reduceIte]) (by simp -dsimp -implicitDefEqProofs only [go_sem, List.map_append, Flt.row, eq_self, ↓reduceIte]))
          · have hcn : c = a.nsp g := by omega
            refine ⟨g + 1, by omega, by omega, ?_⟩
            rw [show l1 ++ flats (fellR a b) (g + 1) = l3 by rw [flats_succ, ← List.append_assoc, ← e2, e3, hcn]; rfl]
            refine rR ?_ <;> first | exact hdT | apply zN
            exact wkF
        · have hgn : g = a.ns := by omega
          subst hgn
          have hl2 : movesL a b = l2 := by rw [e2, e1]; rfl
          have hok := moves_ok a b hq.sm
          have hso := (moves_sorted a b).imp fun {x y} hxy => (cfF_ge y x).2 hxy
          rw [hl2] at hRr hok hso
          refine cl [.gen (accV (k + 3) (l2.map Flt.row)) (k + 4) (LK (k + 2) (k + 3) zSt l2) (LK (k + 2) (k + 3) zSt l2)] ?_ <;> and_intros <;> first | exact hdT | (apply zM; (repeat intro ht); apply zM; (repeat intro hg); apply zM)
          · exact sorted (k + 4) (k + 2) (k + 3) zSt l2 l2 (by omega) (by omega) (by omega) hok (List.Perm.refl _) hso (by omega)
          refine W_mv (Mv.wk (fr1 := [(4, accV (k + 3) (l2.map Flt.row)), (5, .lit (.int .i64 0))]) (k1 := k + 4) (H1 := accH (k + 3) 3 (l2.map Flt.row) []) (wk_low (by omega) (by simp -dsimp -implicitDefEqProofs only [go_sem, List.map_append, Flt.row, eq_self, ↓reduceIte]) (by simp -dsimp -implicitDefEqProofs only [go_sem, List.map_append, Flt.row, eq_self, ↓reduceIte]) (by simp -dsimp -implicitDefEqProofs only [go_sem, List.map_append, Flt.row, eq_self, ↓reduceIte]) (by simp -dsimp -implicitDefEqProofs only [go_sem, List.map_append, Flt.row, eq_self, ↓reduceIte]))) ?_
          refine W_mv (Mv.frz_at (id := k + 3) (s := 3) (l := l2.map Flt.row) 4 (rows 3 (l2.map Flt.row)) [] (by simp -dsimp -implicitDefEqProofs only [go_sem, List.map_append, Flt.row, eq_self, ↓reduceIte]) (by simp -dsimp -implicitDefEqProofs only [go_sem, List.map_append, Flt.row, eq_self, ↓reduceIte]) (VLe.refl _) (by simp -dsimp -implicitDefEqProofs only [go_sem, List.map_append, Flt.row, eq_self, ↓reduceIte]) (by simp -dsimp -implicitDefEqProofs only [go_sem, List.map_append, Flt.row, eq_self, ↓reduceIte])) ?_
          refine rR ?_ <;> first | exact hdT | apply zN
          refine C_ret rfl ⟨_, rfl, ?_⟩
          rw [hRr]
          exact VLe.refl _
end Go.Proofs.T
end
section
namespace Go.Proofs.T
open Go Go.AM Go.Proofs
set_option maxRecDepth 20000
variable {Γ : List (Nat × List AVal)}
theorem stepF2_len (a b : St) (hq : PreOk a) : (stepF2 a b).length ≤ 100000 := by
  have := movesL_len (b := b) hq
  unfold stepF2
  split
  · simp
  · split
    · simp
    · omega
end Go.Proofs.T
end
section
namespace Go.AM
open Go
def deS : AVal → AVal
  | .slc id r m _ => .sl id r m
  | v => v
theorem deS_V {w : World} {G : Nat → Prop} {ρ : Names} {A : Allow} {v : AVal} {cv : Value} (h : V w G ρ A v cv) : V w G ρ A (deS v) cv := by
  cases h with
  | dangc h1 h2 => exact .dangs h1 h2
  | slc h1 h2 h3 h4 h5 h6 h7 => exact .sl h1 h2 h3 h4 h5 h6 h7
  | junk => exact .junk
  | lit => exact .lit
  | dang h1 h2 => exact .dang h1 h2
  | dangs h1 h2 => exact .dangs h1 h2
  | ptr h1 h2 h3 => exact .ptr h1 h2 h3
  | dangm h1 h2 => exact .dangm h1 h2
  | mp h1 h2 h3 => exact .mp h1 h2 h3
  | dangi h1 h2 => exact .dangi h1 h2
  | it h1 h2 h3 => exact .it h1 h2 h3
  | sl h1 h2 h3 h4 h5 h6 h7 => exact .sl h1 h2 h3 h4 h5 h6 h7
  | sl0 h1 h2 => exact .sl0 h1 h2
  | rp g h1 h2 h3 => exact .rp g h1 h2 h3
  | rd0 => exact .rd0
  | rd g h1 h2 h3 h4 h5 h6 => exact .rd g h1 h2 h3 h4 h5 h6
  | agg h1 h2 => exact .agg h1 h2
  | tup h1 h2 => exact .tup h1 h2
  | fn h1 h2 => exact .fn h1 h2
  | nn => exact .nn
  | bfn h => exact .bfn h
theorem VLe.slc (id r n c : Nat) : VLe (.slc id r n c) (.sl id r n) := fun _ _ _ _ _ h => deS_V h
end Go.AM
end
section
namespace Go.AM
open Go
section
variable {P : Program} {Γ : List (Nat × List AVal)} {o : Oper} {ev : Operand → Option AVal} {get : Nat → Option Blk} {k : Nat}
theorem slc_spec {w : World} {G : Nat → Prop} {ρ : Names} {H : Owner} {A A' : Allow} (hr : HRel Γ w G ρ H) {id r n c : Nat} {B : Blk} (hH : H id = some (B, A')) {cv : Value} (hv : V w G ρ A (.slc id r n c) cv) :
    ∃ b off C ty, cv = .slice (some ⟨b, off, none⟩) n c ∧ A id ∧ ρ id = some (b, B.sz) ∧ w.heap[b]? = some (.cells C ty (0, 0)) ∧ (r + c) * B.sz ≤ C.size ∧ n ≤ c ∧ c ≤ maxLen ∧ (c = 0 ∨ off = r * B.sz) ∧
      (∀ r row c v, B.rows[r]? = some row → row[c]? = some v → ∃ cv, C[r * B.sz + c]? = some cv ∧ V w G (if B.pure then noNames else ρ) (if B.pure then noAllow else A') v cv) ∧ (∀ (r : Nat) row, B.rows[r]? = some row → row.length = B.sz) := by
  obtain ⟨_, b, hb, _, hBR⟩ := hr.blk id B A' hH
  cases hv with
  | dangc _ hn => rw [hb] at hn; cases hn
  | slc h1 h2 h3 h4 h5 h6 h7 =>
    rw [hb] at h2; cases h2
    obtain ⟨⟨C, ty, hC, hrows⟩, hlen⟩ := hBR.old h3
    have e := h3
    unfold World.shape? at e
    rw [hC] at e
    simp at e
    obtain ⟨rfl, rfl⟩ := e
    exact ⟨_, _, C, _, rfl, h1, hb, hC, h4, h5, h6, h7, hrows, hlen⟩
end
end Go.AM
end
section
namespace Go.AM
open Go
section
variable {P : Program} {Γ : List (Nat × List AVal)} {o : Oper} {ev : Operand → Option AVal} {get : Nat → Option Blk} {k : Nat}
theorem take_get {α : Type} {l : List α} {n q : Nat} {x : α} (h : (l.take n)[q]? = some x) : q < n ∧ l[q]? = some x := by
  rw [List.getElem?_take] at h
  split at h
  · exact ⟨‹_›, h⟩
  · cases h
theorem SrcA.some {v : AVal} {s m : Nat} {rows : List (List AVal)} {p : Bool} {ids : List Nat} (h : SrcA get v s m rows p ids) : ∀ i, i ∈ ids → (get i).isSome = true := fun i hi => by
  cases h with
  | rd => simp at hi
  | nil => simp at hi
  | sl h1 _ => rw [List.mem_singleton] at hi; rw [hi, h1]; rfl
theorem rds_cons {id : Nat} {B : Blk} {ids : List Nat} (hB : get id = some B) (h : ∀ i, i ∈ ids → (get i).isSome = true) : ∀ i, i ∈ id :: ids → (get i).isSome = true := fun i hi => by
  rcases List.mem_cons.1 hi with e | e
  · rw [e, hB]; rfl
  · exact h i e
end
end Go.AM
end
section
namespace Go.AM
open Go
theorem ltB_iff {k i : Nat} : ltB k i = decide (i < k) := rfl
end Go.AM
end
section
namespace Go.AM
open Go
def behind (Hc : Heap) (ρ : Names) (b : Nat) : Prop := ∃ id B s, AM.look Hc id = some B ∧ ρ id = some (b, s)
def Holds (Hc : Heap) (H : Owner) (A : Allow) : Prop := ∀ id B, AM.look Hc id = some B → ∃ A', H id = some (B, A') ∧ ∀ i, A' i → A i
def Bor (Γ : List (Nat × List AVal)) (Hc : Heap) (v v' : AVal) : Prop :=
  ∀ w G ρ H A cv, HRel Γ w G ρ H → Holds Hc H A → V w G ρ A v cv → V w (fun b => G b ∨ behind Hc ρ b) noNames noAllow v' cv
inductive BorL (Γ : List (Nat × List AVal)) (Hc : Heap) : List AVal → List AVal → Prop
  | nil : BorL Γ Hc [] []
  | cons {v v' vs vs'} : Bor Γ Hc v v' → BorL Γ Hc vs vs' → BorL Γ Hc (v :: vs) (v' :: vs')
theorem BorL.len {Γ : List (Nat × List AVal)} {Hc : Heap} {vs vs' : List AVal} (h : BorL Γ Hc vs vs') : vs.length = vs'.length := by
  induction h with
  | nil => rfl
  | cons _ _ ih => simp [ih]
theorem BorL.get {Γ : List (Nat × List AVal)} {Hc : Heap} {vs vs' : List AVal} (h : BorL Γ Hc vs vs') : ∀ (j : Nat) v', vs'[j]? = some v' → ∃ v, vs[j]? = some v ∧ Bor Γ Hc v v' := by
  induction h with
  | nil => intro j v' hj; simp at hj
  | cons h1 _ ih =>
    intro j v' hj
    cases j with
    | zero => simp only [List.getElem?_cons_zero, Option.some.injEq] at hj; subst hj; exact ⟨_, rfl, h1⟩
    | succ j => simp only [List.getElem?_cons_succ] at hj ⊢; exact ih j v' hj
theorem Bor.clean {Γ : List (Nat × List AVal)} {Hc : Heap} {v : AVal} (h : clean v = true) : Bor Γ Hc v v := fun w G ρ H A cv _ _ hv =>
  (clean_V hv h).mono (fun _ h => .inl h) (fun _ _ => rfl) (fun _ _ => rfl) (fun _ h => h) (fun _ h => h.elim)
section
variable {P : Program} {Γ : List (Nat × List AVal)} {o : Oper} {ev : Operand → Option AVal} {get : Nat → Option Blk} {k : Nat}
theorem Bor.ptr {Hc : Heap} {id r : Nat} {B : Blk} {row : List AVal} {cells : List AVal} (hB : AM.look Hc id = some B) (hrow : B.rows[r]? = some row) (hl : cells.length = row.length) (h : ∀ (j : Nat) v v', row[j]? = some v → cells[j]? = some v' → Bor Γ Hc v v') : Bor Γ Hc (.ptr id r 0) (.rp cells) := fun w G ρ H A cv hr hh hv => by
  obtain ⟨A', hH, hAA⟩ := hh id B hB
  obtain ⟨_, b, hb, _, hBR⟩ := hr.blk id B A' hH
  cases hv with
  | dang _ hn => rw [hb] at hn; cases hn
  | ptr ha hρ hsh =>
    rw [hb] at hρ; cases hρ
    obtain ⟨⟨C, ty, hC, hrows⟩, hlen⟩ := hBR.old hsh
    have key : ∀ (j : Nat) v', cells[j]? = some v' → ∃ v cu, row[j]? = some v ∧ C[r * B.sz + j]? = some cu ∧ V w G ρ A v cu := fun j v' hj => by
      have hlt := (List.getElem?_eq_some_iff.1 hj).1
      have hu : row[j]? = some row[j] := List.getElem?_eq_getElem (by omega)
      obtain ⟨cu, h3, h4⟩ := hrows r row j _ hrow hu
      refine ⟨_, cu, hu, h3, ?_⟩
      by_cases hp : B.pure = true
      · simp only [hp, if_true] at h4; exact h4.weaken
      · simp only [hp] at h4; exact h4.mono (fun _ h => h) (fun _ _ => rfl) (fun _ _ => rfl) hAA (fun _ _ => .inr rfl)
    refine .rp (fun j => C.getD (r * B.sz + j) undef) (.inr ⟨id, B, _, hB, hb⟩) (fun j v' hj => ?_) (fun j v' hj => ?_)
    · obtain ⟨v, cu, _, h3, _⟩ := key j v' hj
      rw [Nat.add_zero, cell_of_row w b _ C ty (0, 0) hC, h3, Array.getD_eq_getD_getElem?, h3]; rfl
    · obtain ⟨v, cu, h2, h3, h4⟩ := key j v' hj
      have e : C.getD (r * B.sz + j) undef = cu := by rw [Array.getD_eq_getD_getElem?, h3]; rfl
      rw [e]
      exact h j v v' h2 hj w G ρ H A cu hr hh h4
theorem Bor.sl {Hc : Heap} {id r n : Nat} {B : Blk} {F : Nat → List AVal} (hB : AM.look Hc id = some B) (hn : r + n ≤ B.rows.length) (hl : ∀ i, i < n → (F i).length = B.sz)
    (h : ∀ (i : Nat) row (j : Nat) v v', i < n → B.rows[r + i]? = some row → row[j]? = some v → (F i)[j]? = some v' → Bor Γ Hc v v') : Bor Γ Hc (.sl id r n) (.rd B.sz n F) := fun w G ρ H A cv hr hh hv => by
  obtain ⟨A', hH, hAA⟩ := hh id B hB
  obtain ⟨_, b, hb, _, hBR⟩ := hr.blk id B A' hH
  cases hv with
  | dangs _ hn => rw [hb] at hn; cases hn
  | sl0 => exact .rd0
  | sl ha hρ hsh hm hn1 hc hoff =>
    rw [hb] at hρ; cases hρ
    rename_i cap off
    obtain ⟨⟨C, ty, hC, hrows⟩, hlen⟩ := hBR.old hsh
    by_cases h0 : n = 0
    · subst h0; exact .rd0
    have hoff' : off = r * B.sz := hoff.resolve_left (by omega)
    subst hoff'
    have key : ∀ (i j : Nat) v', i < n → (F i)[j]? = some v' → ∃ row v cu, B.rows[r + i]? = some row ∧ row[j]? = some v ∧ C[(r + i) * B.sz + j]? = some cu ∧ V w G ρ A v cu := fun i j v' hi hj => by
      have hrow : B.rows[r + i]? = some B.rows[r + i] := List.getElem?_eq_getElem (by omega)
      have hlr := hlen _ _ hrow
      have hlt := (List.getElem?_eq_some_iff.1 hj).1
      rw [hl i hi] at hlt
      have hu : B.rows[r + i][j]? = some (B.rows[r + i][j]'(by omega)) := List.getElem?_eq_getElem (by omega)
      obtain ⟨cu, h3, h4⟩ := hrows (r + i) _ j _ hrow hu
      refine ⟨_, _, cu, hrow, hu, h3, ?_⟩
      by_cases hp : B.pure = true
      · simp only [hp, if_true] at h4; exact h4.weaken
      · simp only [hp] at h4; exact h4.mono (fun _ h => h) (fun _ _ => rfl) (fun _ _ => rfl) hAA (fun _ _ => .inr rfl)
    refine .rd (fun i j => C.getD ((r + i) * B.sz + j) undef) (.inr ⟨id, B, _, hB, hb⟩) hn1 (by omega) hl (fun i j v' hi hj => ?_) (fun i j v' hi hj => ?_)
    · obtain ⟨row, v, cu, _, _, h3, _⟩ := key i j v' hi hj
      have e : r * B.sz + i * B.sz + j = (r + i) * B.sz + j := by rw [Nat.add_mul]
      rw [e, cell_of_row w b _ C ty (0, 0) hC, h3, Array.getD_eq_getD_getElem?, h3]; rfl
    · obtain ⟨row, v, cu, h1, h2, h3, h4⟩ := key i j v' hi hj
      have e : C.getD ((r + i) * B.sz + j) undef = cu := by rw [Array.getD_eq_getD_getElem?, h3]; rfl
      rw [e]
      exact h i row j v v' hi h1 h2 hj w G ρ H A cu hr hh h4
end
end Go.AM
end
section
namespace Go.AM
open Go
section
variable {P : Program} {kb : Nat} {k : Nat} {fr : Fr} {H : Heap}
theorem Mv.cut (id n : Nat) {s : Nat} {p : Bool} {rows : List (List AVal)} (hB : AM.look H id = some ⟨s, p, rows⟩) : Mv kb k fr H k fr (setH H id ⟨s, p, rows.take n⟩) := fun hkb => ⟨hkb, fun Γ nt A0 w G ρ ac hA hi => by
  refine ⟨G, ρ, ⟨⟨fun i h => ?_, fun i B' A h => ?_, hi.rel.inj, hi.rel.ro, hi.rel.glob⟩, hi.size, hi.defers, hi.frm⟩, Step.refl _ _ _ _⟩
  · simp only [ofHeap, Option.map_eq_none_iff, look_setH] at h
    split at h
    · cases h
    · exact hi.rel.dom i (by simp [ofHeap, h])
  · simp only [ofHeap, Option.map_eq_some_iff, look_setH] at h
    obtain ⟨B1, h, he⟩ := h
    cases he
    split at h
    · rename_i e
      subst e
      cases h
      obtain ⟨h1, b, h2, h3, ⟨⟨C, ty, hC, hrows⟩, hlen⟩⟩ := hi.rel.blk i ⟨s, p, rows⟩ (alw A0 kb k) (by simp [ofHeap, hB])
      exact ⟨h1, b, h2, h3, ⟨⟨C, ty, hC, fun r row c v h5 h6 => hrows r row c v (take_get h5).2 h6⟩, fun r row h5 => hlen r row (take_get h5).2⟩⟩
    · exact hi.rel.blk i _ _ (by simp [ofHeap, h])⟩
end
end Go.AM
end
section
namespace Go.AM
open Go
section
variable {P : Program} {Γ : List (Nat × List AVal)} {o : Oper} {ev : Operand → Option AVal} {get : Nat → Option Blk} {k : Nat}
theorem app0_good {t s s' by' id r n c : Nat} {x y : Operand} {v : AVal} {zrow : List AVal} {rows : List (List AVal)} {p : Bool} {ids : List Nat} {B : Blk} (ho : o.op = .call { callee := .builtin .append, args := #[x, y], argTypes := #[t, t] }) (hz : ezero P t = some (s, by', zrow))
    (hx : ev x = some (.slc id r n c)) (hB : get id = some B) (hy : ev y = some v) (hs : SrcA get (deS v) s' 0 rows p ids) :
    Good P Γ o ev get k ⟨.slc id r n c, k, [], id :: ids⟩ := by
  refine ⟨OpOk_quiet fun w G ρ H A a hr hrd hop => ?_, rds_cons hB hs.some, Nat.le_refl _⟩
  have hvx := hop x (by simp [ho, Op.operands, Call.operands]) _ hx
  have hvy := deS_V (hop y (by simp [ho, Op.operands, Call.operands]) _ hy)
  have hxs : ∃ base n cap, a.eval x = .slice base n cap ∧ n ≤ cap := by
    generalize a.eval x = cv at hvx
    obtain ⟨B', A', h2, hH, _⟩ := hrd id (by simp)
    obtain ⟨_, b, hb, _⟩ := hr.blk id B' A' hH
    cases hvx with
    | dangc _ hn => rw [hb] at hn; cases hn
    | slc _ _ _ _ h5 => exact ⟨_, _, _, rfl, h5⟩
  have hys : ∃ q c, a.eval y = .slice q 0 c := by
    generalize a.eval y = cv at hvy
    generalize hu : deS v = u at hvy hs
    cases hs with
    | nil => cases hvy; exact ⟨_, _, rfl⟩
    | rd => cases hvy with
      | rd0 => exact ⟨_, _, rfl⟩
      | rd => exact ⟨_, _, rfl⟩
    | sl hB hle =>
      rename_i id r B
      obtain ⟨B', A', h2, hH, _⟩ := hrd id (by simp)
      obtain ⟨_, b, hb, _⟩ := hr.blk id B' A' hH
      cases hvy with
      | dangs _ hn => rw [hb] at hn; cases hn
      | sl => exact ⟨_, _, rfl⟩
      | sl0 => exact ⟨_, _, rfl⟩
  obtain ⟨base, n, cap, ex, hcap⟩ := hxs
  obtain ⟨q, c, ey⟩ := hys
  unfold ezero at hz
  split at hz
  · rename_i e he
    split at hz
    · rename_i i hi
      rw [ex] at hvx
      refine ⟨.slice base n cap, ?_, hvx⟩
      have := run_append0 (P := P) w t o.type e i he hi base q n cap c hcap
      simp only [execOp, ho, resolve, invoke, builtin, List.map_toArray, List.map_cons, List.map_nil, ex, ey, Sem.run_bind, Sem.run_pure, Result.andThen_ok, this]
    · cases hz
  · cases hz
end
end Go.AM
end
