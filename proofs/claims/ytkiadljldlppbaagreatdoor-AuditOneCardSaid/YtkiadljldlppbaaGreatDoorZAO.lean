import Derived.Test.YtkiadljldlppbaaGreatDoorZAN
import Derived.RangeFuncRecord
import Derived.WalkKit
import Derived.TacticsIn
import Derived.BigFrameIn
set_option linter.unusedVariables false
set_option linter.unusedSimpArgs false
section
namespace Go.Proofs.T
open Go Go.AM Go.Proofs
set_option maxRecDepth 20000
theorem flats_congr {f g : Nat → List Flt} : ∀ {n : Nat}, (∀ i, i < n → f i = g i) → flats f n = flats g n
  | 0, _ => rfl
  | n + 1, h => by rw [flats_succ, flats_succ, flats_congr (fun i hi => h i (by omega)), h n (by omega)]
theorem flats_perm {f g : Nat → List Flt} : ∀ {n : Nat}, (∀ i, i < n → (f i).Perm (g i)) → (flats f n).Perm (flats g n)
  | 0, _ => List.Perm.refl _
  | n + 1, h => (flats_perm (fun i hi => h i (by omega))).append (h n (by omega))
theorem flats_empty {n : Nat} : flats (fun _ => []) n = [] := by
  induction n with
  | zero => rfl
  | succ n ih => rw [flats_succ, ih]; rfl
theorem perm_four {α : Type} (a b c d : List α) : ((a ++ b) ++ (c ++ d)).Perm ((a ++ c) ++ (b ++ d)) := by
  rw [List.append_assoc, List.append_assoc]
  refine List.Perm.append_left a ?_
  rw [← List.append_assoc, ← List.append_assoc]
  exact List.Perm.append_right d List.perm_append_comm
theorem flats_add {f g : Nat → List Flt} : ∀ {n : Nat}, (flats (fun i => f i ++ g i) n).Perm (flats f n ++ flats g n)
  | 0 => List.Perm.refl _
  | n + 1 => ((flats_add (f := f) (g := g) (n := n)).append_right _).trans (perm_four _ _ _ _)
theorem flats_comm {f : Nat → Nat → List Flt} {m : Nat} : ∀ {n : Nat}, (flats (fun i => flats (f i) m) n).Perm (flats (fun j => flats (fun i => f i j) n) m)
  | 0 => by
    show List.Perm [] (flats (fun j => []) m)
    rw [flats_empty]
  | n + 1 => by
    rw [flats_succ]
    exact ((flats_comm (f := f) (m := m) (n := n)).append_right _).trans (flats_add (f := fun j => flats (fun i => f i j) n) (g := f n)).symm
theorem flats_front {f : Nat → List Flt} : ∀ {n : Nat}, flats f (n + 1) = f 0 ++ flats (fun i => f (i + 1)) n
  | 0 => by simp [flats]
  | n + 1 => by rw [flats_succ, flats_front, flats_succ, List.append_assoc]
theorem flats_rev {f : Nat → List Flt} : ∀ {n : Nat}, (flats (fun j => f (n - 1 - j)) n).Perm (flats f n)
  | 0 => List.Perm.refl _
  | n + 1 => by
    rw [flats_front, flats_succ]
    have : flats (fun i => f (n + 1 - 1 - (i + 1))) n = flats (fun j => f (n - 1 - j)) n := flats_congr fun i hi => by
      show f _ = f _
      congr 1; omega
    rw [this]
    exact ((flats_rev (f := f) (n := n)).append_left _).trans List.perm_append_comm
theorem mem_flats {f : Nat → List Flt} {x : Flt} : ∀ {n : Nat}, x ∈ flats f n ↔ ∃ i, i < n ∧ x ∈ f i
  | 0 => by simp [flats]
  | n + 1 => by
    rw [flats_succ, List.mem_append, mem_flats]
    constructor
    · rintro (⟨i, h1, h2⟩ | h)
      · exact ⟨i, by omega, h2⟩
      · exact ⟨n, by omega, h⟩
    · rintro ⟨i, h1, h2⟩
      by_cases he : i = n
      · subst he; exact .inr h2
      · exact .inl ⟨i, by omega, h2⟩
theorem mem_iff1 {b : Bool} {f x : Flt} : x ∈ iff1 b f ↔ b = true ∧ x = f := by cases b <;> simp [iff1]
theorem flats_sorted {R : Flt → Flt → Prop} {f : Nat → List Flt} : ∀ {n : Nat}, (∀ i, i < n → (f i).Pairwise R) → (∀ i j, i < j → j < n → ∀ x ∈ f i, ∀ y ∈ f j, R x y) → (flats f n).Pairwise R
  | 0, _, _ => List.Pairwise.nil
  | n + 1, h1, h2 => by
    rw [flats_succ, List.pairwise_append]
    refine ⟨flats_sorted (fun i hi => h1 i (by omega)) (fun i j hij hj => h2 i j hij (by omega)), h1 n (by omega), fun x hx y hy => ?_⟩
    obtain ⟨i, hi, hx⟩ := mem_flats.1 hx
    exact h2 i n hi (by omega) x hx y hy
theorem iff1_sorted {R : Flt → Flt → Prop} {b : Bool} {f : Flt} : (iff1 b f).Pairwise R := by cases b <;> simp [iff1]
def leF (x y : Flt) : Prop := ¬ (y.r < x.r ∨ (y.r = x.r ∧ (y.a < x.a ∨ (y.a = x.a ∧ y.b < x.b))))
theorem mask_wide (m : Nat) (c : Nat) (hm : m < 2 ^ 64) (hc : c ≤ 64) : 0 < m / 2 ^ c ↔ ∃ i, i < 64 ∧ c ≤ i ∧ m / 2 ^ i % 2 = 1 := by
  constructor
  · intro h
    obtain ⟨i, hi⟩ := Nat.exists_testBit_of_ne_zero (x := m / 2 ^ c) (by omega)
    rw [Nat.testBit_div_two_pow] at hi
    have hlt : i + c < 64 := by
      rcases Nat.lt_or_ge (i + c) 64 with h | h
      · exact h
      · rw [Nat.testBit_lt_two_pow (Nat.lt_of_lt_of_le hm (Nat.pow_le_pow_right (by omega) h))] at hi
        cases hi
    refine ⟨i + c, hlt, by omega, ?_⟩
    rw [Nat.testBit_eq_decide_div_mod_eq] at hi
    exact of_decide_eq_true hi
  · rintro ⟨i, h1, h2, h3⟩
    have h4 : 2 ^ c ≤ 2 ^ i := Nat.pow_le_pow_right (by omega) h2
    have h5 : m / 2 ^ i ≤ m / 2 ^ c := Nat.div_le_div_left h4 (Nat.two_pow_pos c)
    have h6 : m / 2 ^ i ≠ 0 := fun h => by rw [h] at h3; cases h3
    exact Nat.lt_of_lt_of_le (Nat.pos_of_ne_zero h6) h5
theorem div_nat (m c : Nat) : ((m : Int) / 2 ^ c) = ((m / 2 ^ c : Nat) : Int) := by
  have : ((2 : Int) ^ c) = ((2 ^ c : Nat) : Int) := by simp
  rw [this]; rfl
theorem bitB_nat (m c : Nat) : bitB (m : Int) c = decide (m / 2 ^ c % 2 = 1) := by
  unfold bitB
  rw [div_nat]
  congr 1
  apply propext
  omega
theorem fdiv_nat (m c : Nat) : ((m : Int).fdiv (2 ^ c)) = ((m / 2 ^ c : Nat) : Int) := by
  rw [Int.fdiv_eq_ediv_of_nonneg _ (by have : ((2 : Int) ^ c) = ((2 ^ c : Nat) : Int) := by simp
                                       rw [this]; exact Int.natCast_nonneg _), div_nat]
theorem t8_eq (s : St) (hw : Wf s) (i : Nat) (h0 : 0 ≤ s.cpus) (h1 : s.cpus ≤ 64) : t8 s i = r8 s i := by
  obtain ⟨m, hm⟩ := Int.eq_ofNat_of_zero_le (hw.mask0 i)
  obtain ⟨n, hn⟩ := Int.eq_ofNat_of_zero_le h0
  have hb := hw.mask1 i
  have key := mask_wide m n (by omega) (by omega)
  have hmin : min (n : Int).toNat 64 = n := by omega
  rw [Bool.eq_iff_iff]
  unfold t8 r8 shr
  rw [anyB_iff, hm, hn, hmin, fdiv_nat]
  simp only [wideB, Bool.and_eq_true, decide_eq_true_eq, hm, hn, bitB_nat]
  constructor
  · rintro ⟨h2, h3⟩
    obtain ⟨j, j1, j2, j3⟩ := key.1 (by omega)
    exact ⟨j, j1, by omega, j3⟩
  · rintro ⟨j, j1, j2, j3⟩
    have := key.2 ⟨j, j1, by omega, j3⟩
    exact ⟨by omega, by omega⟩
theorem and1_nat (m : Nat) (hm : m < 2 ^ 64) : and1 (m : Int) = ((m % 2 : Nat) : Int) := by
  unfold and1
  have h1 : (BitVec.ofInt IntKind.u64.bits (m : Int) &&& BitVec.ofInt IntKind.u64.bits 1).toNat = m % 2 := by
    show (BitVec.ofInt 64 (m : Int) &&& BitVec.ofInt 64 1).toNat = m % 2
    rw [BitVec.toNat_and, BitVec.ofInt_natCast, BitVec.toNat_ofNat, Nat.mod_eq_of_lt hm]
    show m &&& 1 = m % 2
    exact Nat.and_one_is_mod m
  rw [h1]
  exact wrap_u64 (by omega) (by omega)
theorem t9_eq (s : St) (hw : Wf s) (i : Nat) (h1 : s.cpus ≤ 64) : t9 s i = r9 s i := by
  unfold t9 r9
  by_cases ho : onB s i = true
  · rw [ho, Bool.true_and, Bool.true_and]
    have ho' : 0 ≤ (s.tsk i).cpu ∧ (s.tsk i).cpu < s.cpus := by simpa [onB] using ho
    obtain ⟨m, hm⟩ := Int.eq_ofNat_of_zero_le (hw.mask0 i)
    obtain ⟨n, hn⟩ := Int.eq_ofNat_of_zero_le ho'.1
    have hb := hw.mask1 i
    have e1 : max0 (n : Int) = n := by unfold max0; rw [if_neg (by omega)]
    have e2 : min (n : Int).toNat 64 = n := by omega
    unfold shr
    rw [hm, hn, e1, e2, fdiv_nat, and1_nat _ (Nat.lt_of_le_of_lt (Nat.div_le_self _ _) (by omega)), Int.toNat_natCast, bitB_nat]
    rcases Nat.mod_two_eq_zero_or_one (m / 2 ^ n) with h | h <;> rw [h] <;> rfl
  · rw [Bool.not_eq_true] at ho
    rw [ho]; rfl
end Go.Proofs.T
end
section
namespace Go.Proofs.T
open Go Go.AM Go.Proofs
set_option maxRecDepth 20000
def OMin (o : Option Int) (P : Int → Prop) : Prop := match o with
  | none => ∀ x, ¬ P x
  | some m => P m ∧ ∀ x, P x → m ≤ x
theorem OMin.congr {o : Option Int} {P Q : Int → Prop} (h : OMin o P) (hq : ∀ x, P x ↔ Q x) : OMin o Q := by
  have : P = Q := funext fun x => propext (hq x)
  rwa [← this]
theorem OMin.some_iff {o : Option Int} {P : Int → Prop} (h : OMin o P) : o.isSome = true ↔ ∃ x, P x := by
  cases o with
  | none => simp only [Option.isSome_none, Bool.false_eq_true, false_iff, not_exists]; exact h
  | some m => simp only [Option.isSome_some, true_iff]; exact ⟨m, h.1⟩
theorem low_min {f : Nat → Option Int} {g h : Nat} {v : Int} {P : Int → Prop} (hf : OMin (f h) P) : OMin (low f g v h) (fun x => P x ∨ (g = h ∧ x = v)) := by
  by_cases he : h = g
  · subst he
    cases ho : f h with
    | none =>
      rw [ho] at hf
      have : low f h v h = some v := by simp [low, ho, put]
      rw [this]
      refine ⟨.inr ⟨rfl, rfl⟩, fun x hx => ?_⟩
      rcases hx with hx | ⟨_, hx⟩
      · exact absurd hx (hf x)
      · omega
    | some m =>
      rw [ho] at hf
      by_cases hv : v < m
      · have : low f h v h = some v := by simp [low, ho, put, hv]
        rw [this]
        refine ⟨.inr ⟨rfl, rfl⟩, fun x hx => ?_⟩
        rcases hx with hx | ⟨_, hx⟩
        · have := hf.2 x hx; omega
        · omega
      · have : low f h v h = some m := by simp [low, ho, put, hv]
        rw [this]
        refine ⟨.inl hf.1, fun x hx => ?_⟩
        rcases hx with hx | ⟨_, hx⟩
        · exact hf.2 x hx
        · omega
  · have : low f g v h = f h := by
      unfold low
      cases f g with
      | none => simp [put, he]
      | some u => by_cases hv : v < u <;> simp [put, he, hv]
    rw [this]
    exact hf.congr fun x => ⟨.inl, fun hx => hx.elim id fun hx => absurd hx.1.symm he⟩
theorem fT_min (s : St) (c : Int) (h : Nat) : ∀ n, OMin (fT s c n h) (fun x => ∃ i, i < n ∧ takes s c i = true ∧ (s.tsk i).group.toNat = h ∧ x = (s.tsk i).v)
  | 0 => fun x hx => by obtain ⟨i, hi, _⟩ := hx; omega
  | n + 1 => by
    have ih := fT_min s c h n
    rw [fT]
    by_cases ht : takes s c n = true
    · rw [if_pos ht]
      refine (low_min (g := (s.tsk n).group.toNat) (v := (s.tsk n).v) ih).congr fun x => ?_
      constructor
      · rintro (⟨i, h1, h2⟩ | ⟨h1, h2⟩)
        · exact ⟨i, by omega, h2⟩
        · exact ⟨n, by omega, ht, h1, h2⟩
      · rintro ⟨i, h1, h2, h3, h4⟩
        by_cases he : i = n
        · subst he; exact .inr ⟨h3, h4⟩
        · exact .inl ⟨i, by omega, h2, h3, h4⟩
    · rw [if_neg ht]
      refine ih.congr fun x => ?_
      constructor
      · rintro ⟨i, h1, h2⟩
        exact ⟨i, by omega, h2⟩
      · rintro ⟨i, h1, h2, h3⟩
        by_cases he : i = n
        · subst he; exact absurd h2 ht
        · exact ⟨i, by omega, h2, h3⟩
def into (s : St) (c j h : Nat) (x : Int) : Prop :=
  (∃ i, i < s.nt ∧ takes s c i = true ∧ (s.tsk i).group.toNat = h ∧ x = (s.tsk i).v) ∨
  (∃ q, q < j ∧ 0 < s.ns - 1 - q ∧ (dF s c q (s.ns - 1 - q)).isSome = true ∧ (s.par (s.ns - 1 - q)).toNat = h ∧ x = (s.sp (s.ns - 1 - q) c).v)
theorem dF_min (s : St) (c h : Nat) : ∀ j, OMin (dF s c j h) (into s c j h)
  | 0 => (fT_min s c h s.nt).congr fun x => ⟨.inl, fun hx => hx.elim id fun ⟨q, hq, _⟩ => absurd hq (Nat.not_lt_zero _)⟩
  | j + 1 => by
    have ih := dF_min s c h j
    rw [dF, stepF]
    have mono : ∀ x, into s c j h x → into s c (j + 1) h x := fun x hx => hx.elim .inl fun ⟨q, hq, r⟩ => .inr ⟨q, by omega, r⟩
    cases hm : dF s c j (s.ns - 1 - j) with
    | none =>
      have hn := hm
      refine ih.congr fun x => ⟨mono x, ?_⟩
      rintro (hx | ⟨q, hq, h1, h2, h3⟩)
      · exact .inl hx
      · by_cases he : q = j
        · subst he; rw [hn] at h2; cases h2
        · exact .inr ⟨q, by omega, h1, h2, h3⟩
    | some m =>
      simp only
      by_cases hg : 0 < s.ns - 1 - j
      · rw [if_pos hg]
        refine (low_min ih).congr fun x => ⟨?_, ?_⟩
        · rintro (hx | ⟨h1, h2⟩)
          · exact mono x hx
          · exact .inr ⟨j, by omega, hg, by rw [hm]; rfl, h1, h2⟩
        · rintro (hx | ⟨q, hq, h1, h2, h3, h4⟩)
          · exact .inl (.inl hx)
          · by_cases he : q = j
            · subst he; exact .inr ⟨h3, h4⟩
            · exact .inl (.inr ⟨q, by omega, h1, h2, h3, h4⟩)
      · rw [if_neg hg]
        refine ih.congr fun x => ⟨mono x, ?_⟩
        rintro (hx | ⟨q, hq, h1, h2, h3⟩)
        · exact .inl hx
        · by_cases he : q = j
          · subst he; exact absurd h1 hg
          · exact .inr ⟨q, by omega, h1, h2, h3⟩
theorem mem_flatM {f : Nat → List Mem} {x : Mem} : ∀ {n : Nat}, x ∈ flatM f n ↔ ∃ i, i < n ∧ x ∈ f i
  | 0 => by simp [flatM]
  | n + 1 => by
    rw [flatM_succ, List.mem_append, mem_flatM]
    constructor
    · rintro (⟨i, h1, h2⟩ | h)
      · exact ⟨i, by omega, h2⟩
      · exact ⟨n, by omega, h⟩
    · rintro ⟨i, h1, h2⟩
      by_cases he : i = n
      · subst he; exact .inr h2
      · exact .inl ⟨i, by omega, h2⟩
theorem mem_ifM {b : Bool} {f x : Mem} : x ∈ ifM b f ↔ b = true ∧ x = f := by cases b <;> simp [ifM]
theorem memT_iff (s : St) (hk : FloorOk s) (g c : Nat) (x : Int) : (∃ m ∈ flatM (memT s g c) s.nt, m.v = x) ↔ ∃ i, i < s.nt ∧ takes s c i = true ∧ (s.tsk i).group.toNat = g ∧ x = (s.tsk i).v := by
  constructor
  · rintro ⟨m, hm, rfl⟩
    obtain ⟨i, hi, hm⟩ := mem_flatM.1 hm
    obtain ⟨h1, rfl⟩ := mem_ifM.1 hm
    simp only [inQ, Bool.and_eq_true, decide_eq_true_eq] at h1
    exact ⟨i, hi, by simp [takes, h1], by omega, rfl⟩
  · rintro ⟨i, hi, h1, h2, rfl⟩
    simp only [takes, Bool.and_eq_true, decide_eq_true_eq] at h1
    have := hk.grp i hi
    exact ⟨_, mem_flatM.2 ⟨i, hi, mem_ifM.2 ⟨by simp only [inQ, Bool.and_eq_true, decide_eq_true_eq]; exact ⟨h1.1, by omega, h1.2⟩, rfl⟩⟩, rfl⟩
theorem mems_iff (s : St) (hk : FloorOk s) (c : Nat) : ∀ (f g : Nat), g < s.ns → s.ns - g ≤ f + 1 → ∀ x, (∃ m ∈ memF s c f g, m.v = x) ↔ into s c (s.ns - 1 - g) g x
  | 0, g, hg, hf, x => by
    have e : s.ns - 1 - g = 0 := by omega
    rw [memF, memT_iff s hk, e]
    exact ⟨.inl, fun hx => hx.elim id fun ⟨q, hq, _⟩ => absurd hq (Nat.not_lt_zero _)⟩
  | f + 1, g, hg, hf, x => by
    have ih := mems_iff s hk c f
    have hT := memT_iff s hk g c x
    have sub : ∀ h, h < s.ns → g < h → ((memF s c f h).isEmpty = false ↔ (dF s c (s.ns - 1 - h) h).isSome = true) := fun h h1 h2 => by
      rw [(dF_min s c h (s.ns - 1 - h)).some_iff]
      constructor
      · intro he
        cases hl : memF s c f h with
        | nil => rw [hl] at he; cases he
        | cons m l => exact ⟨m.v, (ih h h1 (by omega) m.v).1 ⟨m, by rw [hl]; simp, rfl⟩⟩
      · rintro ⟨y, hy⟩
        obtain ⟨m, hm, _⟩ := (ih h h1 (by omega) y).2 hy
        cases hl : memF s c f h with
        | nil => rw [hl] at hm; cases hm
        | cons m l => rfl
    rw [memF_succ]
    constructor
    · rintro ⟨m, hm, hv⟩
      rcases List.mem_append.1 hm with hm | hm
      · exact .inl (hT.1 ⟨m, hm, hv⟩)
      · obtain ⟨h, h1, hm⟩ := mem_flatM.1 hm
        obtain ⟨h2, rfl⟩ := mem_ifM.1 hm
        simp only [Bool.and_eq_true, decide_eq_true_eq, Bool.not_eq_true'] at h2
        obtain ⟨⟨h3, h4⟩, h5⟩ := h2
        have hp := hk.par h h3 h1
        have hs := (sub h h1 (by omega)).1 h5
        have e : s.ns - 1 - (s.ns - 1 - h) = h := by omega
        refine .inr ⟨s.ns - 1 - h, by omega, by omega, ?_, ?_, ?_⟩
        · rw [e]; exact hs
        · rw [e]; omega
        · rw [e]; exact hv.symm
    · rintro (hx | ⟨q, hq, h1, h2, h3, h4⟩)
      · obtain ⟨m, hm, hv⟩ := hT.2 hx
        exact ⟨m, List.mem_append_left _ hm, hv⟩
      · obtain ⟨h, eh⟩ : ∃ h, h = s.ns - 1 - q := ⟨_, rfl⟩
        rw [← eh] at h1 h2 h3 h4
        have hp := hk.par h h1 (by omega)
        have hq' : q = s.ns - 1 - h := by omega
        rw [hq'] at h2
        refine ⟨⟨(s.sp h c).v, 1, (h : Int)⟩, List.mem_append_right _ (mem_flatM.2 ⟨h, by omega, mem_ifM.2 ⟨?_, rfl⟩⟩), h4.symm⟩
        simp only [Bool.and_eq_true, decide_eq_true_eq, Bool.not_eq_true']
        exact ⟨⟨h1, by omega⟩, (sub h (by omega) (by omega)).2 h2⟩
theorem cntB_all {f : Nat → Bool} : ∀ {n : Nat}, cntB f n = n ↔ ∀ i, i < n → f i = true
  | 0 => ⟨fun _ i hi => by omega, fun _ => rfl⟩
  | n + 1 => by
    have h1 := cntB_le f n
    have ih := cntB_all (f := f) (n := n)
    rw [cntB]
    by_cases hf : f n = true
    · rw [hf]
      constructor
      · intro h i hi
        by_cases he : i = n
        · subst he; exact hf
        · exact ih.1 (by simp at h; omega) i (by omega)
      · intro h
        have := ih.2 fun i hi => h i (by omega)
        simp; omega
    · rw [Bool.not_eq_true] at hf
      rw [hf]
      constructor
      · intro h; simp at h; omega
      · intro h; have := h n (by omega); rw [hf] at this; cases this
theorem floor_eq (s : St) (hk : FloorOk s) (g c : Nat) (hg : g < s.ns) : floorJ s c (s.ns - 1 - g) = flrAt s g c := by
  have e : s.ns - 1 - (s.ns - 1 - g) = g := by omega
  have hm := dF_min s c g (s.ns - 1 - g)
  have hi := mems_iff s hk c s.ns g hg (by omega)
  have hall : ∀ l : List Mem, cntB (belowB s g c l) l.length = l.length ↔ ∀ m ∈ l, (s.sp g c).floor < m.v := fun l => by
    rw [cntB_all]
    constructor
    · intro h m hm
      obtain ⟨i, hi, rfl⟩ := List.getElem_of_mem hm
      have := h i hi
      simpa [belowB, memV, List.getD_eq_getElem?_getD, List.getElem?_eq_getElem hi] using this
    · intro h i hi
      have := h l[i] (List.getElem_mem hi)
      simpa [belowB, memV, List.getD_eq_getElem?_getD, List.getElem?_eq_getElem hi] using this
  unfold floorJ stepL flrAt
  rw [e]
  cases hd : dF s c (s.ns - 1 - g) g with
  | none =>
    rw [hd] at hm
    have : memF s c s.ns g = [] := by
      cases hl : memF s c s.ns g with
      | nil => rfl
      | cons m l => exact absurd ((hi m.v).1 ⟨m, by rw [hl]; simp, rfl⟩) (hm m.v)
    rw [this]
    simp [iff1]
  | some v =>
    rw [hd] at hm
    simp only
    congr 1
    rw [Bool.eq_iff_iff, decide_eq_true_eq, decide_eq_true_eq, hall]
    constructor
    · intro h
      obtain ⟨m, hm1, hm2⟩ := (hi v).2 hm.1
      refine ⟨List.length_pos_of_mem hm1, fun m' hm' => ?_⟩
      have := hm.2 m'.v ((hi m'.v).1 ⟨m', hm', rfl⟩)
      omega
    · rintro ⟨_, h⟩
      obtain ⟨m, hm1, hm2⟩ := (hi v).2 hm.1
      have := h m hm1
      omega
theorem floors_perm (s : St) (hk : FloorOk s) : (floorsL s).Perm (floorsA s) := by
  unfold floorsL floorsA flrR floorsAt
  refine flats_comm.trans (flats_perm fun c hc => ?_)
  refine List.Perm.trans ?_ (flats_rev (f := floorJ s c) (n := s.ns))
  rw [flats_congr (f := fun g => flrAt s g c) (g := fun g => floorJ s c (s.ns - 1 - g)) fun g hg => (floor_eq s hk g c hg).symm]
end Go.Proofs.T
end
section
namespace Go.Proofs.T
open Go Go.AM Go.Proofs
set_option maxRecDepth 20000
theorem taskAt_eq (s : St) (hw : Wf s) (i : Nat) (h0 : 0 ≤ s.cpus) (h1 : s.cpus ≤ 64) : taskAt s i = flats (fun r => brkAt s r i) 7 := by
  have e8 := t8_eq s hw i h0 h1
  have e9 := t9_eq s hw i h1
  simp [flats, brkAt, brk, taskAt, List.append_assoc, e8, e9]
theorem tasks_perm (s : St) (hw : Wf s) (h0 : 0 ≤ s.cpus) (h1 : s.cpus ≤ 64) : (flats (brkR s) 7).Perm (tasksA s) := by
  unfold tasksA brkR
  rw [flats_congr (f := taskAt s) (g := fun i => flats (fun r => brkAt s r i) 7) fun i _ => taskAt_eq s hw i h0 h1]
  exact flats_comm
theorem spots_eq (s : St) (hw : Wf s) (hv : ∀ g c, 0 ≤ (s.sp g c).v) (hp : PartOk s) : spotsA s = flats (rootAt s) s.cpus.toNat ++ flats (sptR s) s.ns := by
  obtain ⟨n, hn⟩ : ∃ n, s.ns = n + 1 := ⟨s.ns - 1, by have := hp.ns1; omega⟩
  unfold spotsA
  have h0 : s.nsp 0 = s.cpus.toNat := by have := hp.sp 0 (by omega); omega
  rw [hn, flats_front, flats_front]
  have e0 : sptR s 0 = [] := rfl
  rw [e0, List.nil_append]
  congr 1
  · unfold spotsAt
    rw [h0]
    refine flats_congr fun c hc => ?_
    unfold spotAt rootAt
    rw [if_pos rfl]
    congr 1
    have := hv 0 c
    have := hw.sr 0 c
    rw [Bool.eq_iff_iff, decide_eq_true_eq, decide_eq_true_eq]
    omega
theorem parts_perm (s : St) (hw : Wf s) (hv : ∀ g c, 0 ≤ (s.sp g c).v) (hp : PartOk s) : (partsL s).Perm (clocksA s ++ (tasksA s ++ spotsA s)) := by
  have hT := tasks_perm s hw hp.c0 hp.c1
  have hnu : s.cpus.toNat = s.nu := by have := hp.nu; omega
  rw [spots_eq s hw hv hp]
  unfold partsL clocksA
  rw [hnu]
  have hc := List.perm_iff_count.1 hT
  rw [List.perm_iff_count]
  intro a
  have := hc a
  simp only [List.count_append]
  omega
theorem leF_r {x y : Flt} (h : x.r < y.r) : leF x y := by unfold leF; omega
theorem leF_a {x y : Flt} (h : x.r = y.r) (h1 : x.a < y.a) : leF x y := by unfold leF; omega
theorem leF_b {x y : Flt} (h : x.r = y.r) (h1 : x.a = y.a) (h2 : x.b ≤ y.b) : leF x y := by unfold leF; omega
theorem mem_shapeAt {s : St} {g : Nat} {x : Flt} (h : x ∈ shapeAt s g) : x = ⟨2, 3, g⟩ := by
  unfold shapeAt at h; split at h <;> simp at h; exact h
theorem mem_cl {s : St} {n : Nat} {x : Flt} (h : x ∈ flats (clockAt s) n) : x.r = 3 ∧ (0 ≤ x.a ∧ x.a < n) ∧ x.b = 0 := by
  obtain ⟨i, hi, h⟩ := mem_flats.1 h
  obtain ⟨_, rfl⟩ := mem_iff1.1 h
  exact ⟨rfl, by simp only; omega, rfl⟩
theorem mem_cu {s : St} {n : Nat} {x : Flt} (h : x ∈ flats (curAt s) n) : x.r = 13 ∧ (0 ≤ x.a ∧ x.a < n) ∧ x.b = 0 := by
  obtain ⟨i, hi, h⟩ := mem_flats.1 h
  obtain ⟨_, rfl⟩ := mem_iff1.1 h
  exact ⟨rfl, by simp only; omega, rfl⟩
theorem mem_rt {s : St} {n : Nat} {x : Flt} (h : x ∈ flats (rootAt s) n) : x.r = 12 ∧ (0 ≤ x.a ∧ x.a < n) ∧ x.b = 0 := by
  obtain ⟨i, hi, h⟩ := mem_flats.1 h
  obtain ⟨_, rfl⟩ := mem_iff1.1 h
  exact ⟨rfl, by simp only; omega, rfl⟩
theorem mem_br {s : St} {r : Nat} {x : Flt} (h : x ∈ brkR s r) : x.r = r + 4 ∧ (0 ≤ x.a ∧ x.a < s.nt) ∧ x.b = 0 := by
  obtain ⟨i, hi, h⟩ := mem_flats.1 h
  obtain ⟨_, rfl⟩ := mem_iff1.1 h
  exact ⟨rfl, by simp only; omega, rfl⟩
theorem mem_sp {s : St} {g : Nat} {x : Flt} (h : x ∈ sptR s g) : x.r = 11 ∧ x.a = g ∧ (0 ≤ x.b ∧ x.b < s.nsp g) := by
  unfold sptR at h
  split at h
  · cases h
  obtain ⟨i, hi, h⟩ := mem_flats.1 h
  obtain ⟨_, rfl⟩ := mem_iff1.1 h
  exact ⟨rfl, rfl, by simp only; omega⟩
theorem mem_fl {s : St} {g : Nat} {x : Flt} (h : x ∈ flrR s g) : x.r = 14 ∧ x.a = g ∧ (0 ≤ x.b ∧ x.b < s.cpus.toNat) := by
  obtain ⟨i, hi, h⟩ := mem_flats.1 h
  obtain ⟨_, rfl⟩ := mem_iff1.1 h
  exact ⟨rfl, rfl, by simp only; omega⟩
theorem ap_sorted {R : Flt → Flt → Prop} {a b : List Flt} (h1 : a.Pairwise R) (h2 : b.Pairwise R) (h3 : ∀ x ∈ a, ∀ y ∈ b, R x y) : (a ++ b).Pairwise R := List.pairwise_append.2 ⟨h1, h2, h3⟩
theorem col_sorted {f : Nat → List Flt} {n : Nat} {r : Int} {b : Nat → Bool} (h : ∀ i, f i = iff1 (b i) ⟨r, (i : Int), 0⟩) : (flats f n).Pairwise leF :=
  flats_sorted (fun i _ => by rw [h]; exact iff1_sorted) (fun i j hij _ x hx y hy => by
    rw [h] at hx hy
    obtain ⟨_, rfl⟩ := mem_iff1.1 hx
    obtain ⟨_, rfl⟩ := mem_iff1.1 hy
    exact leF_a rfl (by simp only; omega))
theorem row_sorted {f : Nat → List Flt} {n : Nat} {r a : Int} {b : Nat → Bool} (h : ∀ i, f i = iff1 (b i) ⟨r, a, (i : Int)⟩) : (flats f n).Pairwise leF :=
  flats_sorted (fun i _ => by rw [h]; exact iff1_sorted) (fun i j hij _ x hx y hy => by
    rw [h] at hx hy
    obtain ⟨_, rfl⟩ := mem_iff1.1 hx
    obtain ⟨_, rfl⟩ := mem_iff1.1 hy
    exact leF_b rfl rfl (by simp only; omega))
theorem ite_sorted {R : Flt → Flt → Prop} {p : Prop} [Decidable p] {f : Flt} : (if p then [f] else []).Pairwise R := by split <;> simp
theorem mem_ite {p : Prop} [Decidable p] {f x : Flt} (h : x ∈ (if p then [f] else [])) : x = f := by split at h <;> simp at h; exact h
theorem shapes_last {s : St} {x : Flt} (h : x ∈ (if s.ns ≠ s.ng then [⟨2, 2, 0⟩] else flats (shapeAt s) s.ns)) : x.r = 2 ∧ (2 ≤ x.a ∧ x.a ≤ 3) ∧ (0 ≤ x.b ∧ x.b ≤ s.ns) := by
  split at h
  · simp at h; subst h; exact ⟨rfl, by simp, by simp⟩
  · obtain ⟨i, hi, h⟩ := mem_flats.1 h
    rw [mem_shapeAt h]
    exact ⟨rfl, by simp, by simp only; omega⟩
theorem shapes_sorted (s : St) : (shapesL s).Pairwise leF := by
  unfold shapesL
  refine ap_sorted (ap_sorted ite_sorted ite_sorted fun x hx y hy => ?_) ?_ fun x hx y hy => ?_
  · rw [mem_ite hx, mem_ite hy]; exact leF_a rfl (by simp)
  · split
    · simp
    · refine flats_sorted (fun i _ => by unfold shapeAt; split <;> simp) fun i j hij _ x hx y hy => ?_
      rw [mem_shapeAt hx, mem_shapeAt hy]; exact leF_b rfl rfl (by simp only; omega)
  · obtain ⟨h1, h2, h3⟩ := shapes_last hy
    rcases List.mem_append.1 hx with hx | hx <;> rw [mem_ite hx] <;> exact leF_a h1.symm (by simp only; omega)
theorem parts_sorted (s : St) : (partsL s).Pairwise leF := by
  have hB : ∀ x ∈ flats (brkR s) 7, 4 ≤ x.r ∧ x.r ≤ 10 := fun x hx => by
    obtain ⟨i, hi, hx⟩ := mem_flats.1 hx
    have := mem_br hx; omega
  have hS : ∀ x ∈ flats (sptR s) s.ns, x.r = 11 := fun x hx => by
    obtain ⟨i, hi, hx⟩ := mem_flats.1 hx
    exact (mem_sp hx).1
  unfold partsL
  refine ap_sorted (col_sorted fun i => rfl) (ap_sorted ?_ (ap_sorted ?_ (ap_sorted (col_sorted fun i => rfl) (col_sorted fun i => rfl) fun x hx y hy => ?_) fun x hx y hy => ?_) fun x hx y hy => ?_) fun x hx y hy => ?_
  · refine flats_sorted (fun i _ => col_sorted fun i => rfl) fun i j hij _ x hx y hy => ?_
    have := mem_br hx; have := mem_br hy
    exact leF_r (by omega)
  · refine flats_sorted (fun i _ => ?_) fun i j hij _ x hx y hy => ?_
    · unfold sptR
      split
      · exact List.Pairwise.nil
      · exact row_sorted fun i => rfl
    · have := mem_sp hx; have := mem_sp hy
      exact leF_a (by omega) (by omega)
  · have := mem_rt hx; have := mem_cu hy
    exact leF_r (by omega)
  · have := hS x hx
    rcases List.mem_append.1 hy with hy | hy
    · have := mem_rt hy; exact leF_r (by omega)
    · have := mem_cu hy; exact leF_r (by omega)
  · have := hB x hx
    rcases List.mem_append.1 hy with hy | hy
    · have := hS y hy; exact leF_r (by omega)
    rcases List.mem_append.1 hy with hy | hy
    · have := mem_rt hy; exact leF_r (by omega)
    · have := mem_cu hy; exact leF_r (by omega)
  · have := mem_cl hx
    rcases List.mem_append.1 hy with hy | hy
    · have := hB y hy; exact leF_r (by omega)
    rcases List.mem_append.1 hy with hy | hy
    · have := hS y hy; exact leF_r (by omega)
    rcases List.mem_append.1 hy with hy | hy
    · have := mem_rt hy; exact leF_r (by omega)
    · have := mem_cu hy; exact leF_r (by omega)
theorem floors_sorted (s : St) : (floorsL s).Pairwise leF := by
  refine flats_sorted (fun i _ => row_sorted fun i => rfl) fun i j hij _ x hx y hy => ?_
  have := mem_fl hx; have := mem_fl hy
  exact leF_a (by omega) (by omega)
theorem checkR_sorted (s : St) : (checkR s).Pairwise leF := by
  unfold checkR
  split
  · simp
  · split
    · exact shapes_sorted s
    · split
      · exact parts_sorted s
      · exact floors_sorted s
def okN (x : Flt) : Prop := (0 ≤ x.r ∧ x.r < 256) ∧ (0 ≤ x.a ∧ x.a < 1000000) ∧ (0 ≤ x.b ∧ x.b < 1000000)
theorem shapes_ok (s : St) (hs : s.Small) : ∀ x ∈ shapesL s, okN x := fun x hx => by
  have := hs.ns
  unfold shapesL at hx
  rcases List.mem_append.1 hx with hx | hx
  · rcases List.mem_append.1 hx with hx | hx <;> rw [mem_ite hx] <;> simp [okN]
  · have := shapes_last hx
    unfold okN; omega
theorem parts_ok (s : St) (hs : s.Small) (hc : s.cpus ≤ 64) : ∀ x ∈ partsL s, okN x := fun x hx => by
  obtain ⟨hng, hnk, hnu, hnt, hns, hnsp⟩ := id hs
  unfold okN
  unfold partsL at hx
  rcases List.mem_append.1 hx with hx | hx
  · have := mem_cl hx; omega
  rcases List.mem_append.1 hx with hx | hx
  · obtain ⟨i, hi, hx⟩ := mem_flats.1 hx
    have := mem_br hx; omega
  rcases List.mem_append.1 hx with hx | hx
  · obtain ⟨i, hi, hx⟩ := mem_flats.1 hx
    have := mem_sp hx; have := hnsp i hi; omega
  rcases List.mem_append.1 hx with hx | hx
  · have := mem_rt hx; omega
  · have := mem_cu hx; omega
theorem floors_ok (s : St) (hs : s.Small) (hc : s.cpus ≤ 64) : ∀ x ∈ floorsL s, okN x := fun x hx => by
  have := hs.ns
  obtain ⟨i, hi, hx⟩ := mem_flats.1 hx
  have := mem_fl hx
  unfold okN; omega
theorem checkR_ok (s : St) (hs : s.Small) : ∀ x ∈ checkR s, okN x := by
  intro x hx
  unfold checkR at hx
  by_cases hr : refCfg s = false
  · rw [if_pos hr] at hx; simp at hx; subst hx; simp [okN]
  · rw [if_neg hr] at hx
    have hc := (refCfg_spec (s := s) (by simpa using hr)).1.2.1
    split at hx
    · exact shapes_ok s hs x hx
    · split at hx
      · exact parts_ok s hs hc x hx
      · exact floors_ok s hs hc x hx
theorem floorOk (s : St) (h12 : s.ns ≤ 12) (hr : refCfg s = true) (hsh : (shapesL s).length = 0) (hT : (tasksA s).length = 0) : FloorOk s := by
  obtain ⟨⟨h1, h2, h3, h4, h5, h6, h7⟩, hall⟩ := refCfg_spec hr
  obtain ⟨k1, k2, k3, k4⟩ := shapes_nil hsh
  refine ⟨fun i hi => ?_, fun g hg hn => ?_, k4, by omega, by omega, h2, h12⟩
  · have h := flats_nil hT i hi
    have h6 : t6 s i = false := by
      unfold taskAt at h
      simp only [List.append_eq_nil_iff, iff1_nil] at h
      exact h.2.2.1
    simp only [t6, decide_eq_false_iff_not] at h6
    omega
  · have := hall g hg (by omega)
    simp only [okR, Bool.and_eq_true, decide_eq_true_eq] at this
    exact rdep_par hg this.2
end Go.Proofs.T
end
section
namespace Go.Proofs.T
open Go Go.AM Go.Proofs Go.RowKit
set_option maxRecDepth 20000
attribute [local go_sem] Oper.semAt_some
noncomputable def dBody : Code := match Tryz.f129.body with
  | some (.seq _ (.seq _ (.seq (.seq _ (.block _ (.rangeFunc _ _ _ b))) _))) => b
  | _ => .skip
noncomputable def dRec (fn : FuncId) (sl : Value) (g : Int) (N : Nat) (st : LoopState) (pend : Option Code) : Loop :=
  { state := st, pending := pend, fn, tmps := #[sl, .int .i64 g, undef, undef, .int .i64 0, .pointer (some ⟨N, 0, none⟩), sl, .int .i64 g, .func (.func 172) #[] #[.pointer (some ⟨N + 2, 0, none⟩), .pointer (some ⟨N + 1, 0, none⟩)], undef, undef, undef, undef], params := #[9], assign := .skip, body := dBody, defers := N + 3 }
structure DMid (fn : FuncId) (sl : Value) (g : Int) (w : World) (x y : Int) (W : World) : Prop where
  c : W.cell? ⟨w.heap.size, 0, none⟩ = some (.int .i64 x)
  f : W.frozen? ⟨w.heap.size, 0, none⟩ = false
  cl : W.cell? ⟨w.heap.size + 1, 0, none⟩ = some sl
  cg : W.cell? ⟨w.heap.size + 2, 0, none⟩ = some (.int .i64 y)
  fg : W.frozen? ⟨w.heap.size + 2, 0, none⟩ = false
  L : W.heap[w.heap.size + 4]? = some (.loop (dRec fn sl g w.heap.size .ready none))
  K : W.heap[w.heap.size + 3]? = some (.deferred (some []))
  b : Below w.heap.size w W
theorem below_put {B : Nat} {w W : World} (h : Below B w W) {r : Nat} (hr : B ≤ r) (o : Obj) : Below B w (W.putObj r o) :=
  ⟨h.os, h.tape, h.output, by rw [World.putObj_size]; exact h.size, fun k hk => (World.putObj_heap_other (by omega)).trans (h.block k hk)⟩
set_option maxHeartbeats 1000000 in
theorem dRound (F : Fence) (m : Nat) (fn : FuncId) (hfn : F.fn fn) (sl : Value) (g : Int) (w : World) (x y : Int) (hx : -1 ≤ x) (hx2 : x ≤ 100000) (W : World) (h : DMid fn sl g w x y W) :
    RoundIn F m Tryz.prog (w.heap.size + 4) fn #[sl, .int .i64 g, undef, undef, .int .i64 0, .pointer (some ⟨w.heap.size, 0, none⟩), sl, .int .i64 g, .func (.func 172) #[] #[.pointer (some ⟨w.heap.size + 2, 0, none⟩), .pointer (some ⟨w.heap.size + 1, 0, none⟩)], .int .i64 y, undef, undef, undef] .skip dBody W
      fun e W' => e = .returned (.bool true) ∧ DMid fn sl g w (x + 1) y W' := by
  refine roundIn_of_wpIn hfn ?_
  have hl : w.heap.size + 4 < W.heap.size := (Array.getElem?_eq_some_iff.1 h.L).1
  have hbr := run_beginRound (P := Tryz.prog) h.L rfl
  obtain ⟨W2, hW2⟩ : ∃ W2, W.putObj (w.heap.size + 4) (.loop { dRec fn sl g w.heap.size .ready none with state := .busy }) = W2 := ⟨_, rfl⟩
  rw [hW2] at hbr
  have hk : ∀ k, k ≠ w.heap.size + 4 → W2.heap[k]? = W.heap[k]? := fun k hk => by rw [← hW2]; exact World.putObj_heap_other hk
  have hc2 : W2.cell? ⟨w.heap.size, 0, none⟩ = some (.int .i64 x) := (World.cell?_of_block (hk w.heap.size (by omega))).trans h.c
  have hf2 : W2.frozen? ⟨w.heap.size, 0, none⟩ = false := (World.frozen?_of_block (hk w.heap.size (by omega))).trans h.f
  have hL2 : W2.heap[w.heap.size + 4]? = some (.loop { dRec fn sl g w.heap.size .ready none with state := .busy }) := by rw [← hW2]; exact World.putObj_heap_same hl
  have hb2 : Below w.heap.size w W2 := by rw [← hW2]; exact below_put h.b (by omega) _
  clear hW2
  have hwr : wrap64 (x + 1) = x + 1 := by unfold wrap64; omega
  gi_wp2
  conv in dBody => whnf
  gi_wp2
  have hk3 : ∀ k, k ≠ w.heap.size → (W2.setCell ⟨w.heap.size, 0, none⟩ (.int .i64 (x + 1))).heap[k]? = W2.heap[k]? := fun k hk => Below.heap_setCell W2 ⟨w.heap.size, 0, none⟩ _ k hk
  have hL3 := (hk3 (w.heap.size + 4) (by omega)).trans hL2
  have hl3 := (Array.getElem?_eq_some_iff.1 hL3).1
  have hall : ∀ (o : Obj) (k : Nat), k ≠ w.heap.size → k ≠ w.heap.size + 4 → ((W2.setCell ⟨w.heap.size, 0, none⟩ (.int .i64 (x + 1))).putObj (w.heap.size + 4) o).heap[k]? = W.heap[k]? := fun o k h1 h2 =>
    (World.putObj_heap_other h2).trans ((hk3 k h1).trans (hk k h2))
  refine ⟨_, _, run_endRound none hL3, rfl, ?_, ?_, ?_, ?_, ?_, ?_, ?_, ?_⟩
  · exact (World.cell?_of_block (World.putObj_heap_other (k := w.heap.size) (by omega))).trans (World.cell?_setCell_same' _ _ _ (by rw [hc2]; rfl))
  · exact (World.frozen?_of_block (World.putObj_heap_other (k := w.heap.size) (by omega))).trans (by rw [World.frozen?_setCell]; exact hf2)
  · exact (World.cell?_of_block (hall _ (w.heap.size + 1) (by omega) (by omega))).trans h.cl
  · exact (World.cell?_of_block (hall _ (w.heap.size + 2) (by omega) (by omega))).trans h.cg
  · exact (World.frozen?_of_block (hall _ (w.heap.size + 2) (by omega) (by omega))).trans h.fg
  · exact World.putObj_heap_same hl3
  · exact (hall _ _ (by omega) (by omega)).trans h.K
  · exact below_put (hb2.setCell (p := ⟨w.heap.size, 0, none⟩) (Nat.le_refl _) _) (by omega) _
theorem pdep_le (par : Nat → Int) : ∀ f g, pdep par f g ≤ f
  | 0, g => by simp [pdep]
  | f + 1, g => by
    rw [pdep]
    split
    · omega
    · have := pdep_le par f (par g).toNat; omega
structure Pars (w : World) (b o cap n : Nat) (par : Nat → Int) : Prop where
  lt : b < w.heap.size
  at_ : ∀ i, i < n → w.cell? ⟨b, o + i * 2, none⟩ = some (.int .i64 (par i))
noncomputable def dMu (N : Nat) (W : World) : Nat := match W.cell? ⟨N + 2, 0, none⟩ with
  | some (.int _ y) => y.toNat
  | _ => 0
theorem Pars.get {w W : World} {b o cap n : Nat} {par : Nat → Int} (h : Pars w b o cap n par) (hb : Below w.heap.size w W) (i : Nat) (hi : i < n) : W.cell? ⟨b, o + i * 2, none⟩ = some (.int .i64 (par i)) :=
  (World.cell?_of_block (hb.block b h.lt)).trans (h.at_ i hi)
set_option maxHeartbeats 1000000 in
theorem upIter (F : Fence) (n : Nat) (hF : F.fn 172) (hro : F.round = none) (hn : 1 ≤ n) (fn : FuncId) (hfn : F.fn fn) (w : World) (b o cap N : Nat) (par : Nat → Int) (hp : Pars w b o cap N par) (g : Nat) (hg : g < N) (hN : N ≤ 1000) (hv : ∀ j, 1 ≤ j → j ≤ g → 0 ≤ par j ∧ par j < j)
    (W : World) (h : DMid fn (.slice (some ⟨b, o, none⟩) N cap) g w (-1) g W) :
    CallsIn F n Tryz.prog 172 #[.func (.yield (w.heap.size + 4)) #[] #[], .pointer (some ⟨w.heap.size + 2, 0, none⟩), .pointer (some ⟨w.heap.size + 1, 0, none⟩)] W fun e W' => (∃ v, e = .returned v) ∧ ∃ y, DMid fn (.slice (some ⟨b, o, none⟩) N cap) g w (pdep par g g) y W' := by
  refine callsIn_of_wp Tryz.func172 rfl hF ?_ hro
  simp only [Tryz.ntmps172, List.size_toArray, List.length_cons, List.length_nil, Nat.reduceAdd, Nat.reduceSub, Array.replicate_succ, Array.replicate_zero, List.push_toArray, List.append_toArray, List.nil_append, List.cons_append]
  refine wpIn_block ?_
  refine wpIn_loop (fun a' W' => ∃ (y : Nat) (x : Int) (x4 x5 x6 x7 x8 x9 x10 x11 x12 x13 x14 x15 : Value), a' = { tmps := #[.func (.yield (w.heap.size + 4)) #[] #[], .pointer (some ⟨w.heap.size + 2, 0, none⟩), .pointer (some ⟨w.heap.size + 1, 0, none⟩), undef, x4, x5, x6, x7, x8, x9, x10, x11, x12, x13, x14, x15], defers := [] } ∧ y ≤ g ∧ -1 ≤ x ∧ x + 1 + pdep par y y = pdep par g g ∧ DMid fn (.slice (some ⟨b, o, none⟩) N cap) g w x y W') (fun _ W' => dMu w.heap.size W') ⟨g, -1, _, _, _, _, _, _, _, _, _, _, _, _, rfl, Nat.le_refl _, by omega, by omega, h⟩ ?_
  rintro a' W' ⟨y, x, x4, x5, x6, x7, x8, x9, x10, x11, x12, x13, x14, x15, rfl, hy, hx, hs, h'⟩
  have hpd : pdep par g g ≤ 1000 := Nat.le_trans (pdep_le par g g) (by omega)
  have hy1 : (Instr.yield (w.heap.size + 4) #[.int .i64 (y : Int)]).run Tryz.prog W' = .ok (.round (w.heap.size + 4) fn #[.slice (some ⟨b, o, none⟩) N cap, .int .i64 (g : Int), undef, undef, .int .i64 0, .pointer (some ⟨w.heap.size, 0, none⟩), .slice (some ⟨b, o, none⟩) N cap, .int .i64 (g : Int), .func (.func 172) #[] #[.pointer (some ⟨w.heap.size + 2, 0, none⟩), .pointer (some ⟨w.heap.size + 1, 0, none⟩)], .int .i64 (y : Int), undef, undef, undef] .skip dBody) W' := by
    simpa [dRec] using run_yield (P := Tryz.prog) (args := #[.int .i64 (y : Int)]) h'.L rfl
  have hmu : dMu w.heap.size W' = y := by unfold dMu; rw [h'.cg]; simp
  have hcg := h'.cg
  have hcl := h'.cl
  by_cases hy0 : 0 < (y : Int)
  · gi_wp2
    refine (dRound F (n - 1) fn hfn _ g w x y hx (by omega) W' h').mono ?_
    rintro e W1 ⟨rfl, h1⟩
    have hcg := h1.cg
    have hfg := h1.fg
    have hcl := h1.cl
    have hpar := hp.get h1.b y (by omega)
    gi_wp2
    obtain ⟨q, hq⟩ : ∃ q : Nat, par y = q := ⟨(par y).toNat, by have := hv y (by omega) hy; omega⟩
    have hv' := hv y (by omega) hy
    rw [hq] at hv' ⊢
    have hk : ∀ k, k ≠ w.heap.size + 2 → (W1.setCell ⟨w.heap.size + 2, 0, none⟩ (.int .i64 (q : Int))).heap[k]? = W1.heap[k]? := fun k hk => Below.heap_setCell W1 ⟨w.heap.size + 2, 0, none⟩ _ k hk
    have hc' : (W1.setCell ⟨w.heap.size + 2, 0, none⟩ (.int .i64 (q : Int))).cell? ⟨w.heap.size + 2, 0, none⟩ = some (.int .i64 (q : Int)) := World.cell?_setCell_same' _ _ _ (by rw [hcg]; rfl)
    refine ⟨⟨q, x + 1, _, _, _, _, _, _, _, _, _, _, _, _, rfl, by omega, by omega, ?_, ?_⟩, ?_⟩
    · obtain ⟨y', hy'⟩ : ∃ y', y = y' + 1 := ⟨y - 1, by omega⟩
      subst hy'
      rw [pdep, if_neg (by omega), hq, Int.toNat_natCast, pdep_fuel y' q (by omega) (fun j h1 h2 => hv j h1 (by omega))] at hs
      omega
    · refine ⟨?_, ?_, ?_, hc', ?_, ?_, ?_, ?_⟩
      · exact (World.cell?_of_block (hk w.heap.size (by omega))).trans h1.c
      · exact (World.frozen?_of_block (hk w.heap.size (by omega))).trans h1.f
      · exact (World.cell?_of_block (hk (w.heap.size + 1) (by omega))).trans h1.cl
      · rw [World.frozen?_setCell]; exact h1.fg
      · exact (hk _ (by omega)).trans h1.L
      · exact (hk _ (by omega)).trans h1.K
      · exact h1.b.setCell (p := ⟨w.heap.size + 2, 0, none⟩) (Nat.le_add_right _ _) _
    · rw [hmu]; unfold dMu; rw [hc']; simp only [Int.toNat_natCast]; omega
  · gi_wp2
    refine (dRound F (n - 1) fn hfn _ g w x y hx (by omega) W' h').mono ?_
    rintro e W1 ⟨rfl, h1⟩
    have hcg := h1.cg
    gi_wp2
    first | go_end0 | go_ret
    obtain rfl : y = 0 := by omega
    refine ⟨⟨_, rfl⟩, (0 : Nat), ?_⟩
    rw [pdep] at hs
    rw [← hs]
    simpa using h1
theorem up_in (F : Fence) (n : Nat) (h83 : F.fn 154) (hro : F.round = none) (ad : Option Addr) (N cap : Nat) (g : Int) (W : World) :
    CallsIn F n Tryz.prog 154 #[.slice ad N cap, .int .i64 g] W fun e W' => e = .returned (.func (.func 172) #[] #[.pointer (some ⟨W.heap.size + 1, 0, none⟩), .pointer (some ⟨W.heap.size, 0, none⟩)]) ∧ ∃ t1 t2, W' = (W.alloc (.cells #[.slice ad N cap] t1)).alloc (.cells #[.int .i64 g] t2) := by
  refine callsIn_of_wp Tryz.func154 rfl h83 ?_ hro
  simp only [Tryz.ntmps154, List.size_toArray, List.length_cons, List.length_nil, Nat.reduceAdd, Nat.reduceSub, Array.replicate_succ, Array.replicate_zero, List.push_toArray, List.append_toArray, List.nil_append, List.cons_append]
  gi_wp2
  first | go_end0 | go_ret
  exact ⟨rfl, _, _, rfl⟩
set_option maxHeartbeats 1000000 in
theorem depth_in (F : Fence) (n : Nat) (h70 : F.fn 129) (h83 : F.fn 154) (h93 : F.fn 172) (hro : F.round = none) (hn : 2 ≤ n) (w : World) (b o cap N : Nat) (par : Nat → Int) (hp : Pars w b o cap N par) (g : Nat) (hg : g < N) (hN : N ≤ 1000) (hv : ∀ j, 1 ≤ j → j ≤ g → 0 ≤ par j ∧ par j < j) :
    CallsIn F n Tryz.prog 129 #[.slice (some ⟨b, o, none⟩) N cap, .int .i64 (g : Int)] w fun e W' => e = .returned (.int .i64 (pdep par g g : Nat)) ∧ Below w.heap.size w W' := by
  refine callsIn_of_wp_marks Tryz.func129 rfl h70 ?_ hro
  simp only [Tryz.ntmps129, List.size_toArray, List.length_cons, List.length_nil, Nat.reduceAdd, Nat.reduceSub, Array.replicate_succ, Array.replicate_zero, List.push_toArray, List.append_toArray, List.nil_append, List.cons_append]
  gi_wp2
  refine ⟨fun _ => by omega, (up_in F (n - 1) h83 hro _ _ _ g _).mono ?_⟩
  rintro e W0 ⟨rfl, t1, t2, hW0⟩
  simp only [World.size_alloc] at hW0 ⊢
  have hs0 : W0.heap.size = w.heap.size + 3 := by rw [hW0]; simp
  have hb0 : Below w.heap.size w W0 := by
    rw [hW0]
    exact (((Below.refl _ w).alloc (Nat.le_refl _) _).alloc (by simp) _).alloc (by simp; omega) _
  have hh : W0.heap[w.heap.size]? = some (.cells #[.int .i64 (-1)] 3) ∧ W0.heap[w.heap.size + 1]? = some (.cells #[.slice (some ⟨b, o, none⟩) N cap] t1) ∧ W0.heap[w.heap.size + 2]? = some (.cells #[.int .i64 (g : Int)] t2) := by
    rw [hW0]
    refine ⟨?_, ?_, ?_⟩
    · exact (Below.heap_alloc _ _ _ (by simp; omega)).trans ((Below.heap_alloc _ _ _ (by simp)).trans (World.alloc_heap_new w _))
    · refine (Below.heap_alloc _ _ _ (by simp)).trans ?_
      have := World.alloc_heap_new (w.alloc (.cells #[.int .i64 (-1)] 3)) (.cells #[.slice (some ⟨b, o, none⟩) N cap] t1)
      rwa [World.size_alloc] at this
    · have := World.alloc_heap_new ((w.alloc (.cells #[.int .i64 (-1)] 3)).alloc (.cells #[.slice (some ⟨b, o, none⟩) N cap] t1)) (.cells #[.int .i64 (g : Int)] t2)
      rwa [World.size_alloc, World.size_alloc] at this
  clear hW0
  obtain ⟨hh0, hh1, hh2⟩ := hh
  gi_wp2
  refine wpIn_rangeFunc ?_
  intro fn hfn
  rw [hro]
  obtain ⟨W1, hW1⟩ : ∃ W1, (W0.alloc (.deferred (some []))).alloc (.loop (dRec fn (.slice (some ⟨b, o, none⟩) N cap) g w.heap.size .ready none)) = W1 := ⟨_, rfl⟩
  have hold : ∀ k, k < W0.heap.size → W1.heap[k]? = W0.heap[k]? := fun k hk => by
    rw [← hW1]; exact (Below.heap_alloc _ _ k (by simp; omega)).trans (Below.heap_alloc _ _ k hk)
  have hM : DMid fn (.slice (some ⟨b, o, none⟩) N cap) g w (-1) g W1 := by
    have e0 := (hold w.heap.size (by omega)).trans hh0
    have e1 := (hold (w.heap.size + 1) (by omega)).trans hh1
    have e2 := (hold (w.heap.size + 2) (by omega)).trans hh2
    refine ⟨by simp [World.cell?, e0], by simp [World.frozen?, e0], by simp [World.cell?, e1], by simp [World.cell?, e2], by simp [World.frozen?, e2], ?_, ?_, ?_⟩
    · rw [← hW1]; have := World.alloc_heap_new (W0.alloc (.deferred (some []))) (.loop (dRec fn (.slice (some ⟨b, o, none⟩) N cap) g w.heap.size .ready none)); rwa [World.size_alloc, hs0] at this
    · rw [← hW1, ← hs0]; exact (Below.heap_alloc _ _ _ (by simp)).trans (World.alloc_heap_new W0 _)
    · rw [← hW1]; exact (hb0.alloc (by omega) _).alloc (by simp; omega) _
  refine ⟨w.heap.size + 4, [{ target := .collected (w.heap.size + 3), args := #[] }], W1, { target := .fn (.func 172) #[.pointer (some ⟨w.heap.size + 2, 0, none⟩), .pointer (some ⟨w.heap.size + 1, 0, none⟩)], args := #[.func (.yield (w.heap.size + 4)) #[] #[]] }, W1, 172,
    #[.func (.yield (w.heap.size + 4)) #[] #[], .pointer (some ⟨w.heap.size + 2, 0, none⟩), .pointer (some ⟨w.heap.size + 1, 0, none⟩)], W1, ?_, ?_, ?_, ?_, fun _ => by omega, ?_⟩
  · have := run_enterLoop_outer (P := Tryz.prog) (w := W0) fn (dRec fn (.slice (some ⟨b, o, none⟩) N cap) g w.heap.size .ready none).tmps #[9] .skip dBody
    rw [hs0] at this
    rw [← hW1]; exact this
  · simp [resolve, go_sem]
  · intro f' hf'; simp [Target.leads] at hf'; subst hf'; exact h93
  · simp [invoke, go_sem]
  · refine (upIter F (n - 1) h93 hro (by omega) fn hfn w b o cap N par hp g hg hN hv W1 hM).mono ?_
    rintro e W2 ⟨⟨v, rfl⟩, y, h2⟩
    have hend := run_endLoop (P := Tryz.prog) h2.L (by simp [dRec])
    obtain ⟨W3, hW3⟩ : ∃ W3, W2.putObj (w.heap.size + 4) (.loop { dRec fn (.slice (some ⟨b, o, none⟩) N cap) g w.heap.size .ready none with state := .exhausted }) = W3 := ⟨_, rfl⟩
    rw [hW3] at hend
    have hc3 : W3.cell? ⟨w.heap.size, 0, none⟩ = some (.int .i64 (pdep par g g : Nat)) := by rw [← hW3]; exact (World.cell?_of_block (World.putObj_heap_other (k := w.heap.size) (by omega))).trans h2.c
    have hK3 : W3.heap[w.heap.size + 3]? = some (.deferred (some [])) := by rw [← hW3]; exact (World.putObj_heap_other (by omega)).trans h2.K
    have hb3 : Below w.heap.size w W3 := by rw [← hW3]; exact below_put h2.b (by omega) _
    clear hW3
    refine ⟨none, W3, hend, ?_⟩
    gi_wp2
    refine ⟨by simp, .inl ⟨_, _, rfl, run_takeDeferred hK3, ?_⟩⟩
    exact ⟨_, results_tmp rfl _ _ _, rfl, below_put hb3 (by omega) _⟩
theorem depth_calls (w : World) (b o cap N : Nat) (par : Nat → Int) (hp : Pars w b o cap N par) (g : Nat) (hg : g < N) (hN : N ≤ 1000) (hv : ∀ j, 1 ≤ j → j ≤ g → 0 ≤ par j ∧ par j < j) :
    Calls Tryz.prog 129 #[.slice (some ⟨b, o, none⟩) N cap, .int .i64 (g : Int)] w fun e W' => e = .returned (.int .i64 (pdep par g g : Nat)) ∧ Below w.heap.size w W' :=
  callsIn_wide.1 (depth_in Fence.wide 2 trivial trivial trivial rfl (Nat.le_refl _) w b o cap N par hp g hg hN hv)
theorem below_shape {w w' : World} (h : Below w.heap.size w w') (b : Nat) (hb : b < w.heap.size) : w'.shape? b = w.shape? b := by
  unfold World.shape?
  rw [h.block b hb]
theorem pure_of_below {Γ : List (Nat × List AVal)} {w w' : World} {G : Nat → Prop} {ρ : Names} {A : Allow} {k : Nat} (hr : HRel Γ w G ρ (ofHeap [] A)) (h : Below w.heap.size w w') :
    HRel Γ w' G ρ (ofHeap [] (alw A k k)) ∧ Step (below k) w G ρ w' G ρ := by
  have hn : ∀ id, ρ id = none := fun id => hr.dom id rfl
  have hst : Step (below k) w G ρ w' G ρ := ⟨h.size, fun b hb _ => h.block b hb, fun b hb => below_shape h b hb, fun _ h => h, fun _ h => .inl h, fun _ h => .inl h, fun _ _ => .inr rfl, h.os, h.tape, h.output⟩
  refine ⟨⟨fun id _ => hn id, fun id B A' hid => by simp [ofHeap, AM.look] at hid, hr.inj, fun b hb => Nat.lt_of_lt_of_le (hr.ro b hb) h.size, ?_⟩, hst⟩
  exact glob_step hr hst
theorem depthOk (Γ : List (Nat × List AVal)) : DepthOk Γ := by
  intro s n g hg hn hv k A hA w G ρ cargs hr hvs
  obtain ⟨hlen, hvv⟩ := hvs
  have h0 := hvv 0 _ rfl
  have h1 := hvv 1 _ rfl
  have hc2 : cargs = #[cargs.getD 0 undef, cargs.getD 1 undef] := by
    have hsz : cargs.size = 2 := hlen.symm
    apply Array.ext
    · simp [hsz]
    · intro i hi1 hi2
      match i with
      | 0 => simp [Array.getD, hsz]
      | 1 => simp [Array.getD, hsz]
      | i + 2 => omega
  have e1 : cargs.getD 1 undef = .int .i64 (g : Int) := by
    generalize cargs.getD 1 undef = x at h1
    cases h1; rfl
  obtain ⟨b, o, cap, e0, hp⟩ : ∃ b o cap, cargs.getD 0 undef = .slice (some ⟨b, o, none⟩) n cap ∧ Pars w b o cap n s.par := by
    generalize cargs.getD 0 undef = x at h0
    cases h0 with
    | rd0 => omega
    | rd gv hb hcap hnm hl hc hv' =>
      refine ⟨_, _, _, rfl, hr.ro _ hb, fun i hi => ?_⟩
      have h2 := hc i 0 _ hi rfl
      have h3 := hv' i 0 _ hi rfl
      rw [Nat.add_zero] at h2
      rw [h2]
      generalize gv i 0 = z at h3
      cases h3; rfl
  rw [hc2, e0, e1]
  refine (depth_calls w b o cap n s.par hp g hg hn hv).mono ?_
  rintro e w' ⟨rfl, hbl⟩
  obtain ⟨q1, q2⟩ := pure_of_below (k := k) hr hbl
  exact ⟨_, G, ρ, k, _, [], rfl, ⟨rfl, rfl, rfl⟩, Nat.le_refl _, q1, .lit, q2⟩
end Go.Proofs.T
end
section
namespace Go.Proofs.T
open Go Go.AM Go.Proofs
set_option maxRecDepth 20000
variable {Γ : List (Nat × List AVal)}
structure Kinds (s : St) : Prop where
  wf : Wf s
  v0 : ∀ g c, 0 ≤ (s.sp g c).v
theorem check_perm (s : St) (hk : Kinds s) (h12 : s.ns ≤ 12) (hr : refCfg s = true) : (checkR s).Perm (checkA s) := by
  unfold checkR checkA
  rw [if_neg (by rw [hr]; simp), shapeA_eq]
  by_cases h1 : 0 < (shapesL s).length
  · rw [if_pos h1, if_pos h1]
  · rw [if_neg h1, if_neg h1]
    obtain ⟨hp, hpar⟩ := ref_ok h12 hr (by omega)
    have hpp := parts_perm s hk.wf hk.v0 hp
    have hpl : (partsL s).length = (partsA s).length := hpp.length_eq
    rw [hpl]
    by_cases h2 : 0 < (partsA s).length
    · rw [if_pos h2, if_pos h2]; exact hpp
    · rw [if_neg h2, if_neg h2]
      refine floors_perm s (floorOk s h12 hr (by omega) ?_)
      unfold partsA at h2
      simp only [List.length_append] at h2
      omega
theorem check_eq (s : St) (hq : PreOk s) (hk : Kinds s) : Pure Tryz.prog Γ 20 [.agg s.cells] (rows 3 ((checkR s).map Flt.row)) := by
  refine check (depthOk Γ) s hq (checkR s) (fun h => ?_) (fun h1 h2 h3 => ?_) (fun h => ?_) (fun h => ?_) (fun h => ?_)
  · rw [checkR, ← cfg_eq, if_pos h]
  · rw [cfg_eq] at h1
    rw [shapeA_eq] at h2
    refine floorOk s hq.n12 h1 h2 ?_
    unfold partsA at h3
    simp only [List.length_append] at h3
    omega
  · rw [cfg_eq] at h
    intro f hf
    exact checkR_ok s hq.sm f ((check_perm s hk hq.n12 h).mem_iff.2 hf)
  · rw [cfg_eq] at h
    exact check_perm s hk hq.n12 h
  · exact (checkR_sorted s).imp fun {x y} hxy => (cfF_ge y x).2 hxy
end Go.Proofs.T
end
