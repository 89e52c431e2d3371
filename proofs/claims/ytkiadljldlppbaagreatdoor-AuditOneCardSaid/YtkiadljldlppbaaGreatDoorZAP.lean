import Derived.Test.YtkiadljldlppbaaGreatDoorZAO
set_option linter.unusedVariables false
set_option linter.unusedSimpArgs false
section
namespace Go.Proofs.T
open Go Go.AM Go.Proofs
set_option maxRecDepth 20000
theorem ask_min {o : Option Mb} {y : Mb} {P : Int → Prop} (h : OMin (o.map (·.v)) P) : OMin ((ask o y).map (·.v)) (fun x => P x ∨ x = y.v) := by
  cases o with
  | none =>
    refine ⟨.inr rfl, fun x hx => ?_⟩
    rcases hx with hx | hx
    · exact absurd hx (h x)
    · rw [hx]; exact Int.le_refl _
  | some b =>
    obtain ⟨h1, h2⟩ := h
    have h1 : P b.v := h1
    have h2 : ∀ x, P x → b.v ≤ x := h2
    simp only [ask]
    by_cases hl : mbLt y b = true
    · rw [if_pos hl]
      simp only [mbLt, decide_eq_true_eq] at hl
      refine ⟨.inr rfl, fun x hx => ?_⟩
      show y.v ≤ x
      rcases hx with hx | hx
      · have := h2 x hx; omega
      · omega
    · rw [if_neg hl]
      simp only [mbLt, decide_eq_true_eq] at hl
      refine ⟨.inl h1, fun x hx => ?_⟩
      show b.v ≤ x
      rcases hx with hx | hx
      · exact h2 x hx
      · omega
theorem lT_min {L : LSt} {g c : Nat} (hk : FloorOk L.st) : ∀ i, i ≤ L.tl.length → OMin ((lT L g c i).map (·.v)) (fun x => ∃ j, j < i ∧ takes L.st c j = true ∧ (L.st.tsk j).group.toNat = g ∧ x = (L.st.tsk j).v)
  | 0, _ => fun x ⟨j, h, _⟩ => absurd h (Nat.not_lt_zero _)
  | i + 1, hi => by
    have ih := lT_min (g := g) (c := c) hk i (by omega)
    have hgp : 0 ≤ (L.tsk i).group ∧ (L.tsk i).group < L.sl.length := hk.grp i (by show i < L.tl.length; omega)
    rw [lT]
    by_cases ht : takesL L g c i = true
    · rw [if_pos ht]
      obtain ⟨t1, t2, t3⟩ := takes_iff.1 ht
      refine (ask_min ih).congr fun x => ⟨?_, ?_⟩
      · rintro (⟨j, h1, h2⟩ | h1)
        · exact ⟨j, by omega, h2⟩
        · refine ⟨i, by omega, ?_, ?_, h1⟩
          · simp only [takes, Bool.and_eq_true, decide_eq_true_eq]; exact ⟨t1, t3⟩
          · show (L.tsk i).group.toNat = g; omega
      · rintro ⟨j, h1, h2, h3, h4⟩
        by_cases e : j = i
        · subst e; exact .inr h4
        · exact .inl ⟨j, by omega, h2, h3, h4⟩
    · rw [if_neg ht]
      refine ih.congr fun x => ⟨fun ⟨j, h1, h2⟩ => ⟨j, by omega, h2⟩, ?_⟩
      rintro ⟨j, h1, h2, h3, h4⟩
      by_cases e : j = i
      · subst e
        refine absurd (takes_iff.2 ?_) ht
        simp only [takes, Bool.and_eq_true, decide_eq_true_eq] at h2
        have h3' : (L.tsk j).group.toNat = g := h3
        exact ⟨h2.1, by omega, h2.2⟩
      · exact ⟨j, by omega, h2, h3, h4⟩
theorem lS_min {L : LSt} {F : Nat → Option Mb} {g c : Nat} (hk : FloorOk L.st) : ∀ i, OMin ((lS L F g c i).map (·.v)) (fun x => (∃ j, j < L.tl.length ∧ takes L.st c j = true ∧ (L.st.tsk j).group.toNat = g ∧ x = (L.st.tsk j).v) ∨ ∃ h, g < h ∧ h < g + 1 + i ∧ L.par h = g ∧ (F h).isSome = true ∧ x = (L.sp h c).v)
  | 0 => (lT_min hk L.tl.length (Nat.le_refl _)).congr fun x => ⟨.inl, fun hx => hx.elim id fun ⟨h, h1, h2, _⟩ => by omega⟩
  | i + 1 => by
    have ih := lS_min (F := F) (g := g) (c := c) hk i
    rw [lS]
    by_cases ht : L.par (g + 1 + i) = g ∧ (F (g + 1 + i)).isSome = true
    · rw [if_pos ht]
      refine (ask_min ih).congr fun x => ⟨?_, ?_⟩
      · rintro ((h | ⟨h, h1, h2, h3⟩) | h)
        · exact .inl h
        · exact .inr ⟨h, h1, by omega, h3⟩
        · exact .inr ⟨g + 1 + i, by omega, by omega, ht.1, ht.2, h⟩
      · rintro (h | ⟨h, h1, h2, h3, h4, h5⟩)
        · exact .inl (.inl h)
        · by_cases e : h = g + 1 + i
          · subst e; exact .inr h5
          · exact .inl (.inr ⟨h, h1, by omega, h3, h4, h5⟩)
    · rw [if_neg ht]
      refine ih.congr fun x => ⟨?_, ?_⟩
      · rintro (h | ⟨h, h1, h2, h3⟩)
        · exact .inl h
        · exact .inr ⟨h, h1, by omega, h3⟩
      · rintro (h | ⟨h, h1, h2, h3, h4, h5⟩)
        · exact .inl h
        · by_cases e : h = g + 1 + i
          · subst e; exact absurd ⟨h3, h4⟩ ht
          · exact .inr ⟨h, h1, by omega, h3, h4, h5⟩
theorem leastF_min {L : LSt} (hk : FloorOk L.st) (c : Nat) : ∀ f g, g < L.sl.length → L.sl.length - g ≤ f → OMin ((leastF L f g c).map (·.v)) (into L.st c (L.sl.length - 1 - g) g)
  | 0, g, hg, hf => by omega
  | f + 1, g, hg, hf => by
    have ih := leastF_min hk c f
    rw [leastF]
    refine (lS_min hk _).congr fun x => ?_
    have hpar : ∀ h, 0 < h → h < L.sl.length → 0 ≤ L.par h ∧ L.par h < h := fun h h1 h2 => hk.par h h1 h2
    have sub : ∀ h, g < h → h < L.sl.length → ((leastF L f h c).isSome = true ↔ (dF L.st c (L.sl.length - 1 - h) h).isSome = true) := fun h h1 h2 => by
      have e1 := (ih h h2 (by omega)).some_iff
      have e2 := (dF_min L.st c h (L.sl.length - 1 - h)).some_iff
      rw [e2, ← e1, Option.isSome_map]
    unfold into
    constructor
    · rintro (h | ⟨h, h1, h2, h3, h4, h5⟩)
      · exact .inl h
      · have e : L.sl.length - 1 - (L.sl.length - 1 - h) = h := by omega
        refine .inr ⟨L.sl.length - 1 - h, by omega, ?_, ?_, ?_, ?_⟩
        · show 0 < L.sl.length - 1 - (L.sl.length - 1 - h); omega
        · show (dF L.st c (L.sl.length - 1 - h) (L.sl.length - 1 - (L.sl.length - 1 - h))).isSome = true
          rw [e]; exact (sub h h1 (by omega)).1 h4
        · show (L.par (L.sl.length - 1 - (L.sl.length - 1 - h))).toNat = g
          rw [e]; omega
        · show x = (L.sp (L.sl.length - 1 - (L.sl.length - 1 - h)) c).v
          rw [e]; exact h5
    · rintro (h | ⟨q, hq, h1, h2, h3, h4⟩)
      · exact .inl h
      · obtain ⟨h, eh⟩ : ∃ h, h = L.sl.length - 1 - q := ⟨_, rfl⟩
        have h1 : 0 < L.sl.length - 1 - q := h1
        have h2 : (dF L.st c q (L.sl.length - 1 - q)).isSome = true := h2
        have h3 : (L.par (L.sl.length - 1 - q)).toNat = g := h3
        have h4 : x = (L.sp (L.sl.length - 1 - q) c).v := h4
        rw [← eh] at h1 h2 h3 h4
        have hq' : q = L.sl.length - 1 - h := by omega
        rw [hq'] at h2
        have hp := hpar h h1 (by omega)
        have hgh : g < h := by omega
        exact .inr ⟨h, hgh, by omega, by omega, (sub h hgh (by omega)).2 h2, h4⟩
theorem OMin.unique {o q : Option Int} {P : Int → Prop} (h : OMin o P) (g : OMin q P) : o = q := by
  cases o with
  | none =>
    cases q with
    | none => rfl
    | some b => exact absurd g.1 (h b)
  | some a =>
    cases q with
    | none => exact absurd h.1 (g a)
    | some b => have := h.2 b g.1; have := g.2 a h.1; congr 1; omega
theorem lst_dF {L : LSt} (hk : FloorOk L.st) {g c : Nat} (hg : g < L.sl.length) : (lst L g c).map (·.v) = dF L.st c (L.sl.length - 1 - g) g :=
  (leastF_min hk c _ g hg (by omega)).unique (dF_min L.st c g _)
def flrL (L : LSt) (g c : Nat) : List Flt := match lst L g c with
  | none => []
  | some x => iff1 (decide ((L.sp g c).floor < x.v)) ⟨14, (g : Int), (c : Int)⟩
theorem flr_lst {L : LSt} (hk : FloorOk L.st) {g c : Nat} (hg : g < L.sl.length) : flrAt L.st g c = flrL L g c := by
  rw [← floor_eq L.st hk g c hg]
  have e : L.st.ns - 1 - (L.st.ns - 1 - g) = g := by show L.sl.length - 1 - (L.sl.length - 1 - g) = g; omega
  unfold floorJ
  rw [e]
  unfold stepL
  have h := lst_dF hk hg (c := c)
  have h' : dF L.st c (L.st.ns - 1 - g) g = (lst L g c).map (·.v) := h.symm
  rw [h']
  unfold flrL
  cases lst L g c with
  | none => rfl
  | some x => rfl
theorem flats_nil_iff {f : Nat → List Flt} : ∀ {n : Nat}, flats f n = [] ↔ ∀ i, i < n → f i = []
  | 0 => ⟨fun _ i h => absurd h (Nat.not_lt_zero _), fun _ => rfl⟩
  | n + 1 => by
    rw [flats, List.append_eq_nil_iff, flats_nil_iff]
    constructor
    · rintro ⟨h1, h2⟩ i hi
      by_cases e : i = n
      · rw [e]; exact h2
      · exact h1 i (by omega)
    · exact fun h => ⟨fun i hi => h i (by omega), h n (by omega)⟩
theorem flats_one {f : Nat → List Flt} {i : Nat} : ∀ {n : Nat}, i < n → (∀ j, j < n → j ≠ i → f j = []) → flats f n = f i
  | 0, h, _ => absurd h (Nat.not_lt_zero _)
  | n + 1, hi, h => by
    rw [flats]
    by_cases e : i = n
    · subst e
      rw [flats_nil_iff.2 (fun j hj => h j (by omega) (by omega)), List.nil_append]
    · rw [flats_one (n := n) (by omega) (fun j hj hne => h j (by omega) hne), h n (by omega) (fun hh => e hh.symm), List.append_nil]
theorem Rt0.floorOk {L : LSt} {n : Nat} (h : Rt0 L n) (h12 : L.sl.length ≤ 12) : FloorOk L.st :=
  ⟨fun i hi => ⟨(h.tk i hi).g0, (h.tk i hi).g1⟩, fun g h1 h2 => h.par g h1 h2, fun g hg => by show ((L.sl.getD g []).length : Int) = L.cpus; rw [h.rows g hg, h.cpus], by show L.sl.length ≤ L.gl.length; rw [h.ng]; exact Nat.le_refl _,
    by show 0 ≤ L.cpus; rw [h.cpus]; omega, by show L.cpus ≤ 64; rw [h.cpus]; have := h.n64; omega, h12⟩
theorem getD_out {α : Type} {l : List α} {i : Nat} {d : α} (h : l.length ≤ i) : l.getD i d = d := by simp [List.getD, h]
theorem Rt0.sp_all {L : LSt} {n : Nat} (h : Rt0 L n) (g c : Nat) : 0 ≤ (L.sp g c).v ∧ (L.sp g c).v ≤ 18446744073709551615 ∧ 0 ≤ (L.sp g c).r := by
  by_cases hg : g < L.sl.length
  · by_cases hc : c < n
    · have := h.sp g c hg hc; exact ⟨this.2.1, this.2.2.1, this.2.2.2.1⟩
    · have e : L.sp g c = default := by unfold LSt.sp; exact getD_out (by rw [h.rows g hg]; omega)
      rw [e]; exact ⟨Int.le_refl _, by show (0 : Int) ≤ _; omega, Int.le_refl _⟩
  · have e : L.sp g c = default := by unfold LSt.sp; rw [getD_out (l := L.sl) (by omega)]; rfl
    rw [e]; exact ⟨Int.le_refl _, by show (0 : Int) ≤ _; omega, Int.le_refl _⟩
theorem Rt0.tk_all {L : LSt} {n : Nat} (h : Rt0 L n) (i : Nat) : 0 ≤ (L.tsk i).mask ∧ (L.tsk i).mask < 18446744073709551616 ∧ (L.tsk i).v ≤ 18446744073709551615 ∧ 0 ≤ (L.tsk i).r := by
  by_cases hi : i < L.tl.length
  · have := h.tk i hi; exact ⟨this.m0, this.m1, this.v1, this.r0⟩
  · have e : L.tsk i = default := by unfold LSt.tsk; exact getD_out (by omega)
    rw [e]
    exact ⟨Int.le_refl _, by show (0 : Int) < _; omega, by show (0 : Int) ≤ _; omega, Int.le_refl _⟩
theorem Rt0.kinds {L : LSt} {n : Nat} (h : Rt0 L n) : Kinds L.st :=
  ⟨⟨fun i => (h.tk_all i).1, fun i => (h.tk_all i).2.1, fun i => (h.tk_all i).2.2.1, fun i => (h.tk_all i).2.2.2, fun g c => (h.sp_all g c).2.1, fun g c => (h.sp_all g c).2.2⟩, fun g c => (h.sp_all g c).1⟩
theorem Rt0.preOk {L : LSt} {n : Nat} (h : Rt0 L n) (h12 : L.sl.length ≤ 12) (hn : n ≤ 12) : PreOk L.st :=
  ⟨⟨by show L.gl.length ≤ 1000; rw [h.ng]; omega, by show L.kl.length ≤ 1000; rw [h.nk]; omega, by show L.ul.length ≤ 1000; rw [h.nu]; omega, h.nt, by show L.sl.length ≤ 1000; omega, fun g hg => by show (L.sl.getD g []).length ≤ 1000; rw [h.rows g hg]; omega⟩, h12, fun g hg => by show (L.sl.getD g []).length ≤ 12; rw [h.rows g hg]; exact hn⟩
theorem Rt0.brk_no {L : LSt} {n : Nat} (h : Rt0 L n) {i : Nat} (hi : i < L.tl.length) (r : Int) : brk L.st i r = false := by
  have t := h.tk i hi
  have hc := h.cpus
  have hn := h.n64
  have hon : onB L.st i = true := by simp only [onB, decide_eq_true_eq]; exact ⟨t.c0, by show (L.tsk i).cpu < L.cpus; rw [hc]; exact t.c1⟩
  unfold brk
  split
  · simp only [t4, Bool.and_eq_false_iff, decide_eq_false_iff_not]
    by_cases h0 : 0 < (i : Int)
    · right
      have := h.sorted (i - 1) i (by omega) hi
      show ¬ (L.tsk i).id ≤ (L.tsk (i - 1)).id
      omega
    · exact .inl h0
  split
  · simp only [t5, decide_eq_false_iff_not]
    show ¬ ((L.tsk i).id < 1 ∨ 65535 < (L.tsk i).id)
    have := t.id1; have := t.id2; omega
  split
  · simp only [t6, decide_eq_false_iff_not]
    show ¬ ((L.tsk i).group < 0 ∨ (L.gl.length : Int) ≤ (L.tsk i).group)
    have := t.g0; have := t.g1; have := h.ng; omega
  split
  · simp only [t7, hon]; rfl
  split
  · rw [← t8_eq L.st h.kinds.wf i (by show 0 ≤ L.cpus; omega) (by show L.cpus ≤ 64; omega)]
    simp only [t8, Bool.and_eq_false_iff, decide_eq_false_iff_not]
    right
    show ¬ 0 < shr (L.tsk i).mask L.cpus
    rw [shr, hc, show min ((n : Int).toNat) 64 = n by omega, Int.fdiv_eq_ediv_of_nonneg _ (Int.pow_nonneg (by omega)), t.m2]
    omega
  split
  · simp only [r9, hon, Bool.true_and, Bool.not_eq_false']
    show bitB (L.tsk i).mask (L.tsk i).cpu.toNat = true
    simp only [bitB, decide_eq_true_eq]
    exact t.m3
  · simp only [t10, Bool.not_eq_false']
    exact t.e
theorem Rt0.parts_nil {L : LSt} {n : Nat} (h : Rt0 L n) : partsL L.st = [] := by
  have hc := h.cpus
  unfold partsL
  have e1 : flats (clockAt L.st) L.st.nk = [] := flats_nil_iff.2 fun c hcc => by
    have hcc : c < L.kl.length := hcc
    have := h.clk c (by rw [h.nk] at hcc; exact hcc)
    unfold clockAt
    rw [iff1_nil, decide_eq_false_iff_not]
    show ¬ (L.clk c < 0 ∨ 281474976710656 < L.clk c)
    omega
  have e2 : flats (brkR L.st) 7 = [] := flats_nil_iff.2 fun r _ => flats_nil_iff.2 fun i hi => by unfold brkAt; rw [iff1_nil]; exact h.brk_no hi _
  have e3 : flats (sptR L.st) L.st.ns = [] := flats_nil_iff.2 fun g hg => by
    have hg : g < L.sl.length := hg
    unfold sptR
    split
    · rfl
    · refine flats_nil_iff.2 fun c hcc => ?_
      have hcc : c < (L.sl.getD g []).length := hcc
      rw [h.rows g hg] at hcc
      unfold sptAt
      rw [iff1_nil, Bool.not_eq_false']
      exact (h.sp g c hg hcc).1
  have hcn : L.st.cpus.toNat = n := by show L.cpus.toNat = n; omega
  have e4 : flats (rootAt L.st) L.st.cpus.toNat = [] := flats_nil_iff.2 fun c hcc => by
    rw [hcn] at hcc
    have := h.root c hcc
    unfold rootAt
    rw [iff1_nil, decide_eq_false_iff_not]
    show ¬ (0 < (L.sp 0 c).v ∨ 0 < (L.sp 0 c).r)
    omega
  have e5 : flats (curAt L.st) L.st.cpus.toNat = [] := flats_nil_iff.2 fun c hcc => by
    rw [hcn] at hcc
    unfold curAt
    rw [iff1_nil]
    show (decide (L.cur c ≠ 0) && !(anyB (isReady L.st (L.cur c) c) L.tl.length)) = false
    rcases h.cur c hcc with h0 | ⟨j, h1, h2, h3, h4⟩
    · simp [h0]
    · have : anyB (isReady L.st (L.cur c) c) L.tl.length = true := anyB_iff.2 ⟨j, h1, by
        simp only [isReady, Bool.and_eq_true, decide_eq_true_eq]
        exact ⟨h4, h2, h3⟩⟩
      rw [this]; simp
  rw [e1, e2, e3, e4, e5]
  rfl
def FlOk (L : LSt) (n : Nat) : Prop := ∀ g c, g < L.sl.length → c < n → ∀ x, lst L g c = some x → x.v ≤ (L.sp g c).floor
theorem floorsL_eq {L : LSt} {n : Nat} (h : Rt0 L n) (h12 : L.sl.length ≤ 12) : floorsL L.st = flats (fun g => flats (flrL L g) n) L.sl.length := by
  unfold floorsL
  refine flats_congr fun g hg => ?_
  have hg : g < L.sl.length := hg
  unfold flrR
  rw [show L.st.cpus.toNat = n by show L.cpus.toNat = n; have := h.cpus; omega]
  exact flats_congr fun c _ => flr_lst (h.floorOk h12) hg
theorem flrL_nil {L : LSt} {g c : Nat} : flrL L g c = [] ↔ ∀ x, lst L g c = some x → x.v ≤ (L.sp g c).floor := by
  unfold flrL
  cases lst L g c with
  | none => simp
  | some x =>
    simp only [iff1_nil, decide_eq_false_iff_not, Option.some.injEq]
    constructor
    · rintro h y rfl; omega
    · intro h; have := h x rfl; omega
theorem Rt0.shapes_nil {L : LSt} {n : Nat} (h : Rt0 L n) : shapesL L.st = [] := by
  have hc := h.cpus
  have h1 : (L.st.nk : Int) = L.st.cpus := by show (L.kl.length : Int) = L.cpus; rw [h.nk, hc]
  have h2 : (L.st.nu : Int) = L.st.cpus := by show (L.ul.length : Int) = L.cpus; rw [h.nu, hc]
  have h3 : L.st.ns = L.st.ng := h.ng.symm
  unfold shapesL
  rw [if_neg (fun e => e h1), if_neg (fun e => e h2), if_neg (fun e => e h3)]
  simp only [List.nil_append]
  refine flats_nil_iff.2 fun g hg => ?_
  have hg : g < L.sl.length := hg
  unfold shapeAt
  rw [if_pos]
  show ((L.sl.getD g []).length : Int) = L.cpus
  rw [h.rows g hg, hc]
theorem Rt0.check {L : LSt} {n : Nat} (h : Rt0 L n) (h12 : L.sl.length ≤ 12) (hr : refCfg L.st = true) : checkR L.st = flats (fun g => flats (flrL L g) n) L.sl.length := by
  unfold checkR
  rw [if_neg (by rw [hr]; simp), h.shapes_nil, h.parts_nil, if_neg (by simp), if_neg (by simp)]
  exact floorsL_eq h h12
end Go.Proofs.T
end
section
namespace Go.Proofs.T
open Go Go.AM Go.Proofs
set_option maxRecDepth 20000
structure SameQ (L M : LSt) : Prop where
  tl : M.tl = L.tl
  ns : M.sl.length = L.sl.length
  gl : M.gl = L.gl
  v : ∀ g c, (M.sp g c).v = (L.sp g c).v
theorem SameQ.refl (L : LSt) : SameQ L L := ⟨rfl, rfl, rfl, fun _ _ => rfl⟩
theorem SameQ.trans {A B C : LSt} (h : SameQ A B) (g : SameQ B C) : SameQ A C := ⟨g.tl.trans h.tl, g.ns.trans h.ns, g.gl.trans h.gl, fun a c => (g.v a c).trans (h.v a c)⟩
theorem SameQ.par {L M : LSt} (h : SameQ L M) (g : Nat) : M.par g = L.par g := by unfold LSt.par; rw [h.gl]
theorem lT_same {L M : LSt} (h : SameQ L M) {g c : Int} : ∀ i, lT M g c i = lT L g c i
  | 0 => rfl
  | i + 1 => by
    have e : M.tsk i = L.tsk i := by unfold LSt.tsk; rw [h.tl]
    rw [lT, lT, lT_same h i, takesL, takesL, e]
theorem lS_same {L M : LSt} (h : SameQ L M) {F G : Nat → Option Mb} (hF : ∀ x, F x = G x) {g c : Nat} : ∀ i, lS M F g c i = lS L G g c i
  | 0 => by rw [lS, lS, lT_same h, h.tl]
  | i + 1 => by rw [lS, lS, lS_same h hF i, h.par, h.v, hF]
theorem leastF_same {L M : LSt} (h : SameQ L M) {c : Nat} : ∀ f g, leastF M f g c = leastF L f g c
  | 0, _ => rfl
  | f + 1, g => by rw [leastF, leastF, lS_same h (fun x => leastF_same h f x), h.ns]
theorem lst_same {L M : LSt} (h : SameQ L M) {g c : Nat} : lst M g c = lst L g c := by unfold lst; rw [leastF_same h, h.ns]
def FlAt (L : LSt) (g c : Nat) : Prop := ∀ x, lst L g c = some x → x.v ≤ (L.sp g c).floor
theorem rise1_all {L : LSt} {n g c : Nat} (h : Rt0 L n) (hg : g < L.sl.length) (hc : c < n) : SameQ L (rise1 L g c) ∧ FlAt (rise1 L g c) g c ∧ (∀ a b, ¬ (a = g ∧ b = c) → (rise1 L g c).sp a b = L.sp a b) ∧ Fwd L (rise1 L g c) := by
  have hcr : c < (L.sl.getD g []).length := by rw [h.rows g hg]; exact hc
  unfold rise1
  cases hl : lst L g c with
  | none =>
    simp only
    exact ⟨SameQ.refl L, fun x hx => (by rw [hl] at hx; cases hx), fun _ _ _ => trivial, Fwd.refl L⟩
  | some x =>
    simp only
    have hs : SameQ L (L.setS g c { L.sp g c with floor := maxZ (L.sp g c).floor x.v }) := ⟨rfl, setS_len, rfl, fun a b => by
      rw [setS_sp hg hcr]
      split
      · rename_i e; rw [e.1, e.2]
      · rfl⟩
    refine ⟨hs, fun y hy => ?_, fun a b hab => by rw [setS_sp hg hcr, if_neg hab], Fwd.setS hg hcr ?_⟩
    · rw [lst_same hs, hl] at hy
      cases hy
      rw [setS_sp hg hcr, if_pos ⟨rfl, rfl⟩]
      show x.v ≤ maxZ _ _
      unfold maxZ; split <;> omega
    · show (L.sp g c).floor ≤ maxZ _ _
      unfold maxZ; split <;> omega
theorem FlAt.same {L M : LSt} {g c : Nat} (h : SameQ L M) (hf : (M.sp g c).floor = (L.sp g c).floor) : FlAt M g c ↔ FlAt L g c := by unfold FlAt; rw [lst_same h, hf]
theorem rcN_all {L : LSt} {n g : Nat} (h : Rt0 L n) (hg : g < L.sl.length) : ∀ {j : Nat}, j ≤ n → SameQ L (rcN L g j) ∧ (∀ c, c < j → FlAt (rcN L g j) g c) ∧ (∀ a b, ¬ (a = g ∧ b < j) → (rcN L g j).sp a b = L.sp a b) ∧ Fwd L (rcN L g j)
  | 0, _ => ⟨SameQ.refl L, fun c hc => absurd hc (Nat.not_lt_zero _), fun _ _ _ => rfl, Fwd.refl L⟩
  | j + 1, hj => by
    obtain ⟨h1, h2, h3, h4⟩ := rcN_all h hg (j := j) (by omega)
    obtain ⟨h5, h6⟩ := rcN_ok h hg (j := j) (by omega)
    obtain ⟨k1, k2, k3, k4⟩ := rise1_all h5 (g := g) (c := j) (by omega) (by omega)
    refine ⟨h1.trans k1, fun c hc => ?_, fun a b hab => ?_, h4.trans k4 (.inl (by show (rise1 (rcN L g j) g j).tl.length = _; rw [k1.tl]))⟩
    · by_cases e : c = j
      · subst e; exact k2
      · exact (FlAt.same k1 (by rw [k3 g c (fun hh => e hh.2)])).2 (h2 c (by omega))
    · show (rise1 (rcN L g j) g j).sp a b = L.sp a b
      rw [k3 a b (fun hh => hab ⟨hh.1, by omega⟩), h3 a b (fun hh => hab ⟨hh.1, by omega⟩)]
theorem rgN_all {L : LSt} {n : Nat} (h : Rt0 L n) : ∀ {i : Nat}, i ≤ L.sl.length → SameQ L (rgN L n i) ∧ (∀ g c, g < i → c < n → FlAt (rgN L n i) g c) ∧ Fwd L (rgN L n i)
  | 0, _ => ⟨SameQ.refl L, fun g c hg => absurd hg (Nat.not_lt_zero _), Fwd.refl L⟩
  | i + 1, hi => by
    obtain ⟨h1, h2, h4⟩ := rgN_all h (i := i) (by omega)
    obtain ⟨h5, h6⟩ := rgN_ok h (i := i) (by omega)
    obtain ⟨k1, k2, k3, k4⟩ := rcN_all h5 (g := i) (by omega) (Nat.le_refl n)
    refine ⟨h1.trans k1, fun g c hg hc => ?_, h4.trans k4 (.inl (by show (rcN (rgN L n i) i n).tl.length = _; rw [k1.tl]))⟩
    by_cases e : g = i
    · subst e; exact k2 c hc
    · exact (FlAt.same k1 (by rw [k3 g c (fun hh => e hh.1)])).2 (h2 g c (by omega) hc)
theorem riseL_ok {L : LSt} {n : Nat} (h : Rt0 L n) : Rt0 (riseL L n) n ∧ FlOk (riseL L n) n ∧ Fwd L (riseL L n) ∧ (riseL L n).tl = L.tl := by
  obtain ⟨h1, h2, h3⟩ := rgN_all h (Nat.le_refl _)
  obtain ⟨h4, h5⟩ := rgN_ok h (Nat.le_refl _)
  refine ⟨h4, fun g c hg hc => h2 g c ?_ hc, h3, h1.tl⟩
  have : (riseL L n).sl.length = L.sl.length := h5
  omega
structure Later (L L' : LSt) : Prop where
  cpus : L'.cpus = L.cpus
  credit : L'.credit = L.credit
  ns : L'.sl.length = L.sl.length
  par : ∀ g, L'.par g = L.par g
  clk : ∀ c, L.clk c ≤ L'.clk c
  fl : ∀ g c, (L.sp g c).floor ≤ (L'.sp g c).floor
  w0 : L'.wt 0 = L.wt 0
theorem Later.refl (L : LSt) : Later L L := ⟨rfl, rfl, rfl, fun _ => rfl, fun _ => Int.le_refl _, fun _ _ => Int.le_refl _, rfl⟩
theorem Later.trans {A B C : LSt} (h : Later A B) (g : Later B C) : Later A C :=
  ⟨g.cpus.trans h.cpus, g.credit.trans h.credit, g.ns.trans h.ns, fun x => (g.par x).trans (h.par x), fun c => Int.le_trans (h.clk c) (g.clk c), fun a c => Int.le_trans (h.fl a c) (g.fl a c), g.w0.trans h.w0⟩
theorem Fwd.later {A B : LSt} (h : Fwd A B) : Later A B := ⟨h.cpus, h.credit, h.ns, h.par, h.clk, h.fl, h.w0⟩
structure Rt (L : LSt) (n : Nat) : Prop where
  r0 : Rt0 L n
  fl : FlOk L n
  cfg : refCfg L.st = true
theorem cfg_later {A B : LSt} {n : Nat} (ha : Rt0 A n) (hb : Rt0 B n) (h : Later A B) (hc : refCfg A.st = true) : refCfg B.st = true := by
  obtain ⟨⟨h1, h2, h3, h4, h5, h6, h7⟩, hall⟩ := refCfg_spec hc
  have e1 : B.st.ng = A.st.ng := by show B.gl.length = A.gl.length; rw [hb.ng, ha.ng, h.ns]
  have e2 : B.st.par = A.st.par := funext h.par
  simp only [refCfg, Bool.and_eq_true, decide_eq_true_eq, Option.isNone_iff_eq_none]
  refine ⟨⟨by rw [show B.st.cpus = A.st.cpus from h.cpus]; exact h1, by rw [show B.st.cpus = A.st.cpus from h.cpus]; exact h2, by rw [show B.st.credit = A.st.credit from h.credit]; exact h3, by omega, by omega, by rw [e2]; exact h6, by rw [show B.st.wt 0 = A.st.wt 0 from h.w0]; exact h7⟩, fb_none_iff.2 fun g hg hgn => ?_⟩
  have := hall g hg (by omega)
  simp only [okR, Bool.and_eq_true, decide_eq_true_eq, okW] at this ⊢
  rw [e2]
  have hgl : g < A.gl.length := by have : g < A.st.ng := by omega
                                   exact this
  exact ⟨hb.wt g (by rw [h.ns, ← ha.ng]; exact hgl), this.2⟩
end Go.Proofs.T
end
section
namespace Go.Proofs.T
open Go Go.AM Go.Proofs
set_option maxRecDepth 20000
variable {Γ : List (Nat × List AVal)}
def nsL (n i : Nat) : List (List AVal) := List.replicate i [.rd 3 n (fun _ => zS)]
theorem nsL_len (n i : Nat) : (nsL n i).length = i := by simp [nsL]
theorem nsL_succ (n i : Nat) : nsL n (i + 1) = nsL n i ++ [[.rd 3 n (fun _ => zS)]] := by simp [nsL, List.replicate_succ']
theorem nsL_clean (n i : Nat) : ((nsL n i).all fun row => row.all clean) = true := by
  rw [List.all_eq_true]
  intro row h
  have := List.eq_of_mem_replicate h
  subst this
  rfl
theorem nsL_cons (n i : Nat) : nsL n (i + 1) = [.rd 3 n (fun _ => zS)] :: nsL n i := rfl
attribute [go_sem] nsL_len
def newL (s : St) (n : Nat) : LSt := ⟨s.cpus, s.credit, (List.range s.ng).map fun i => (s.par i, s.wt i), List.replicate n 0, List.replicate n 0, [], List.replicate s.ng (List.replicate n ⟨0, 0, 0⟩)⟩
theorem rep_map {α β : Type} (n : Nat) (a : α) (f : α → β) : (List.replicate n a).map f = (List.range n).map fun _ => f a := List.ext_getElem? fun j => by
  by_cases h : j < n
  · simp [h]
  · rw [List.getElem?_eq_none (by simp; omega), List.getElem?_eq_none (by simp; omega)]
theorem MH_new {s : St} {n ng m tk : Nat} (hn : s.cpus = (n : Int)) (hng : ng = s.ng) : MH m tk (newL s n) = (m, ⟨8, false, [[.lit (.int .i64 (n : Int)), .lit (.int .u64 s.credit), .sl (m + 1) 0 ng, .sl (m + 2) 0 n, .sl (m + 3) 0 n, .sl tk 0 0, .sl (m + 5) 0 ng, .lit (.bool true)]]⟩) :: (m + 1, ⟨2, true, (List.range ng).map (gf s)⟩) :: (m + 2, ⟨1, true, (List.range n).map fun _ => zI⟩) :: (m + 3, ⟨1, true, (List.range n).map fun _ => zI⟩) :: (m + 5, ⟨1, false, cpO (m + 6) ng n ng⟩) :: (tk, ⟨8, true, []⟩) :: fam (m + 6) 3 ng (fun _ => (List.range n).map fun _ => zS) := by
  have e1 : glR (newL s n) = (List.range ng).map (gf s) := by simp [glR, newL, hng, glc, gf, Function.comp_def]
  have e2 : klR (newL s n) = (List.range n).map fun _ => zI := rep_map n 0 inc
  have e3 : ulR (newL s n) = (List.range n).map fun _ => zI := rep_map n 0 inc
  have hl : (newL s n).sl.length = ng := by simp [newL, hng]
  have hg : ∀ g, g < ng → (newL s n).sl.getD g [] = List.replicate n ⟨0, 0, 0⟩ := fun g h => by
    have : g < s.ng := by omega
    simp [newL, List.getD, this]
  have e4 : ouR m (newL s n) = cpO (m + 6) ng n ng := by
    rw [cpO_last, ouR, hl]
    refine List.map_congr_left fun g h => ?_
    rw [ouF, hg g (List.mem_range.1 h), List.length_replicate]
  have e5 : fam (m + 6) 3 (newL s n).sl.length (slR (newL s n)) = fam (m + 6) 3 ng (fun _ => (List.range n).map fun _ => zS) := by
    rw [hl]
    refine AM.fam_congr fun g h => ?_
    rw [slR, hg g h]
    exact rep_map n ⟨0, 0, 0⟩ spc
  have e6 : mrow m tk (newL s n) = [.lit (.int .i64 (n : Int)), .lit (.int .u64 s.credit), .sl (m + 1) 0 ng, .sl (m + 2) 0 n, .sl (m + 3) 0 n, .sl tk 0 0, .sl (m + 5) 0 ng, .lit (.bool true)] := by
    simp [mrow, newL, hn, ← hng]
  rw [MH, LH, e1, e2, e3, e4, e5, e6]
  rfl
theorem new_zs (n : Nat) : VLe (.rd 3 n (fun q => (List.replicate n [AVal.lit (.int .u64 0), .lit (.int .u32 0), .lit (.int .u64 0)]).getD q [])) (.rd 3 n (fun _ => zS)) := VLe.rd fun i hi => by simp [List.getD_eq_getElem?_getD, hi, zS]
set_option maxHeartbeats 8000000 in
theorem mnew (s : St) (n : Nat) (hn : s.cpus = (n : Int)) (hmc : modCfg s = true) (h1 : 1 ≤ n) (h2 : n ≤ 64) (h3 : 1 ≤ s.ng) (h4 : s.ng ≤ 256) (k : Nat) :
    Tr Tryz.prog Γ 11 k [.agg s.cfg] [] (fun k1 r1 H1 => k1 = k + (23 + s.ng) ∧ r1 = .tup [.ptr (k + 14) 0 0, .lit (.int .i64 0)] ∧ H1 = MH (k + 14) (k + (22 + s.ng)) (newL s n)) := by
  obtain ⟨ng, eng⟩ : ∃ x, x = s.ng := ⟨_, rfl⟩
  rw [← eng] at h3 h4 ⊢
  obtain ⟨RH, eRH⟩ : ∃ x : Heap, x = MH (k + 14) (k + (22 + ng)) (newL s n) := ⟨_, rfl⟩
  obtain ⟨RV, eRV⟩ : ∃ x : AVal, x = .tup [.ptr (k + 14) 0 0, .lit (.int .i64 0)] := ⟨_, rfl⟩
  have hLl : (newL s n).sl.length = ng := by simp [newL, eng]
  refine Tr.mono (Tr_in (kk := k + (23 + ng)) (V := RV) (RH := RH) (by omega) (by rw [eRV]; simp [bd, bd1, bd0, ltB]; omega) (by rw [eRH]; exact MH_lt (by rw [hLl]; omega) (by omega)) ?_) (fun _ _ _ h => ⟨h.1, h.2.1.trans eRV, h.2.2.trans eRH⟩)
  have hrc := rightConfig (depthOk Γ) s
  rw [hmc] at hrc
  refine Tr_at Tryz.func11 rfl 34 rfl (Nat.le_of_ble_eq_true rfl) ?_
  have kp : Kp [0,1,2,3,4,7,18,19,20] (fun i => if k ≤ i then i - k else 0) := kpI
  refine wlL ?_; refine zq1 ⟨⟨⟨?_⟩⟩⟩
  refine clL [.ret (.lit (.bool true))] ?_; refine zq2 ⟨⟨⟨?_⟩⟩⟩ ⟨⟨⟨?_⟩⟩⟩
  · exact hrc
  have uU := zA @hn (Eq.symm (eng))
  refine wlL ?_; refine zq1 ⟨fun ht => ⟨⟨?_⟩⟩⟩
  refine M_forO (X := Nat) rfl [0,1,2,3,4,7,18,19,20] (k + 5) (fun i => [(19, .lit (.int .i64 (i : Int)))]) (fun i => (k + 3, ⟨7, false, [[.lit (.int .i64 (n : Int)), .lit (.int .u64 s.credit), .rd 2 ng (gf s), .sl (k + 1) 0 n, .sl (k + 2) 0 n, .lit (.slice none 0 0), accV (k + 4) (nsL n i)]]⟩) :: accH (k + 4) 1 (nsL n i) [(k, ⟨3, true, [[.lit (.int .i64 (n : Int)), .lit (.int .u64 s.credit), .rd 2 ng (gf s)]]⟩), (k + 1, ⟨1, true, List.replicate n [.lit (.int .i64 0)]⟩), (k + 2, ⟨1, true, List.replicate n [.lit (.int .i64 0)]⟩)]) (fun i => i ≤ ng) (fun i => ng - i) 0 ?_ (Nat.zero_le _) ?_
  · rw [show nsL n 0 = [] from rfl]
    refine rRL ?_; apply zN
    exact wkD
  intro i hi
  refine rRL ?_; apply zN
  by_cases hi2 : i < ng
  · have hcl : ((nsL n i ++ [[AVal.rd 3 n (fun _ => zS)]]).all fun row => row.all clean) = true := by rw [← nsL_succ]; exact nsL_clean n (i + 1)
    have zero2 := new_zs n
    rcases Nat.eq_zero_or_pos i with hi0 | hi0
    · subst hi0
      rw [show nsL n 0 = [] from rfl]
      refine wlL ?_; refine zq1 ⟨fun ht => ⟨⟨?_⟩⟩⟩
      refine ⟨0 + 1, by omega, by omega, ?_⟩
      rw [nsL_succ]
      try rw [show nsL n 0 = [] from rfl]
      refine Mv.trans (Mv.freeze (k + 5) (by simp -dsimp -implicitDefEqProofs (disch := omega) only [go_sem, nq0, hn, ← eng, eq_self, ↓reduceIte]; rfl) rfl) ?_
      simp -dsimp -implicitDefEqProofs only [frzF, frz_app, go_sem, List.length_replicate, Nat.le_refl, frz_rows (nsL_clean n 0), hn, ← eng, eq_self, ↓reduceIte]
      refine Mv.trans (Mv.row (k + 7) (l := []) [.rd 3 n (fun _ => zS)] (by simp (disch := omega) only [AM.look, nq0, ↓reduceIte, List.nil_append]; rfl) (.cons (new_zs n) .nil) hcl) ?_
      exact Mv.app (k + 7) (k + 4) ⟨by omega, by omega⟩ ⟨by omega, by omega⟩ wgD
    · obtain ⟨j, rfl⟩ : ∃ j, i = j + 1 := ⟨i - 1, by omega⟩
      rw [nsL_cons]
      refine wlL ?_; refine zq1 ⟨fun ht => ⟨⟨?_⟩⟩⟩
      refine ⟨j + 1 + 1, by omega, by omega, ?_⟩
      rw [nsL_succ]
      refine Mv.trans (Mv.freeze (k + 5) (by simp -dsimp -implicitDefEqProofs (disch := omega) only [go_sem, nq0, hn, ← eng, eq_self, ↓reduceIte]; rfl) rfl) ?_
      simp -dsimp -implicitDefEqProofs only [frzF, frz_app, go_sem, List.length_replicate, Nat.le_refl, frz_rows (nsL_clean n j), hn, ← eng, eq_self, ↓reduceIte]
      refine Mv.trans (Mv.row (k + 7) (l := nsL n (j + 1)) [.rd 3 n (fun _ => zS)] (by simp (disch := omega) only [AM.look, nq0, ↓reduceIte, List.nil_append]; rfl) (.cons (new_zs n) .nil) hcl) ?_
      exact Mv.app (k + 7) (k + 4) ⟨by omega, by omega⟩ ⟨by omega, by omega⟩ wgD
  · have hil : i = ng := by omega
    subst hil
    obtain ⟨j, ej⟩ : ∃ j, i = j + 1 := ⟨i - 1, by omega⟩
    have ens : nsL n i = [.rd 3 n (fun _ => zS)] :: nsL n j := by rw [ej]; rfl
    rw [ens]
    have elen : (nsL n j).length + 1 = i := by rw [nsL_len]; omega
    refine rRL ?_; apply zN
    refine wlL ?_; refine zq1 ⟨fun ht => ⟨⟨?_⟩⟩⟩
    have hone : (((List.range i).map (gf s)).all fun row => row.all AM.one) = true := rows_one_of _ _ fun _ => rfl
    have hco := copiedO (n : Int) s.credit i n i (gf s) hone (by omega) (by omega) h1 (by omega) (by omega) (by omega) (k + 5) (Γ := Γ)
    rw [show k + 5 + (16 + i) = k + (21 + i) by omega] at hco
    simp only [Nat.add_assoc, Nat.reduceAdd] at hco
    obtain ⟨GR, eG⟩ : ∃ GR, GR = (List.range i).map (gf s) := ⟨_, rfl⟩
    obtain ⟨KR, eK⟩ : ∃ KR, KR = (List.range n).map fun _ => zI := ⟨_, rfl⟩
    obtain ⟨SR, eS⟩ : ∃ SR, SR = (List.range n).map fun _ => zS := ⟨_, rfl⟩
    have eMH := MH_new (m := k + 14) (tk := k + (22 + i)) hn eng
    simp only [Nat.add_assoc, Nat.reduceAdd] at eMH
    rw [← eG, ← eK, ← eS] at hco eMH
    have zI2 : VLe (.rd 1 n (fun q => (List.replicate n [AVal.lit (.int .i64 0)]).getD q [])) (.rd 1 n (fun _ => zI)) := VLe.rd fun q hq => by simp [List.getD_eq_getElem?_getD, hq, zI]
    have zN2 : VLe (.rd 1 i (fun q => ([.rd 3 n (fun _ => [.lit (.int .u64 0), .lit (.int .u32 0), .lit (.int .u64 0)])] :: nsL n j).getD q [])) (.rd 1 i (fun _ => [.rd 3 n (fun _ => zS)])) := VLe.rd fun q hq => by
      have : ([AVal.rd 3 n (fun _ => [.lit (.int .u64 0), .lit (.int .u32 0), .lit (.int .u64 0)])] :: nsL n j) = nsL n i := ens.symm
      rw [this]
      simp [nsL, List.getD_eq_getElem?_getD, hq]
    have hfzr : ∀ (id : Nat) (B : Blk), (nsL n j).map (fun row => row.map (frz0 id B)) = nsL n j := fun _ _ => frz_rows (nsL_clean n j)
    refine W_mv (Mv.freeze (k + 4) (B := ⟨1, true, [.rd 3 n (fun _ => [.lit (.int .u64 0), .lit (.int .u32 0), .lit (.int .u64 0)])] :: nsL n j⟩) (by simp (disch := omega) only [AM.look, nq0, ↓reduceIte]) rfl) ?_
    simp -dsimp -implicitDefEqProofs only [frzF, frz_app, go_sem, List.length_replicate, Nat.le_refl, List.length_cons, nsL_len, ← ej, hfzr, hn, ← eng, eq_self, ↓reduceIte]
    refine W_mv (Mv.freeze (k + 1) (B := ⟨1, true, List.replicate n [.lit (.int .i64 0)]⟩) (by simp (disch := omega) only [AM.look, nq0, ↓reduceIte]) rfl) ?_
    simp -dsimp -implicitDefEqProofs only [frzF, frz_app, go_sem, List.length_replicate, Nat.le_refl, List.length_cons, nsL_len, ← ej, hfzr, hn, ← eng, eq_self, ↓reduceIte]
    refine W_mv (Mv.freeze (k + 2) (B := ⟨1, true, List.replicate n [.lit (.int .i64 0)]⟩) (by simp (disch := omega) only [AM.look, nq0, ↓reduceIte]) rfl) ?_
    simp -dsimp -implicitDefEqProofs only [frzF, frz_app, go_sem, List.length_replicate, Nat.le_refl, List.length_cons, nsL_len, ← ej, hfzr, hn, ← eng, eq_self, ↓reduceIte]
    refine W_mv (Mv.row (k + 3) (l := []) [.lit (.int .i64 (n : Int)), .lit (.int .u64 s.credit), .rd 2 i (gf s), .rd 1 n (fun _ => zI), .rd 1 n (fun _ => zI), .lit (.slice none 0 0), .rd 1 i (fun _ => [.rd 3 n (fun _ => zS)])] (by simp (disch := omega) only [AM.look, nq0, ↓reduceIte, List.nil_append]; rfl) (.cons (VLe.refl _) (.cons (VLe.refl _) (.cons (VLe.refl _) (.cons zI2 (.cons zI2 (.cons (VLe.refl _) (.cons zN2 .nil))))))) rfl) ?_
    have uU := zA @lrN (zA @Nat.le_refl (zA @lcN (zA @nsL_len (And.intro (Eq.symm (ej)) (zA @hfzr (zA @hn (Eq.symm (eng))))))))
    refine rRL ?_; apply zN
    refine wlL ?_; refine zq1 ⟨⟨⟨?_⟩⟩⟩
    refine clL [.far (.agg [.lit (.int .i64 (n : Int)), .lit (.int .u64 s.credit), .sl (k + 15) 0 i, .sl (k + 16) 0 n, .sl (k + 17) 0 n, .lit (.slice none 0 0), .sl (k + 19) 0 i]) (k + (21 + i)) [(k + 3, ⟨7, true, [[.lit (.int .i64 (n : Int)), .lit (.int .u64 s.credit), .rd 2 i (gf s), .rd 1 n (fun _ => zI), .rd 1 n (fun _ => zI), .lit (.slice none 0 0), .rd 1 i (fun _ => [.rd 3 n (fun _ => zS)])]]⟩), (k, ⟨3, true, [[.lit (.int .i64 (n : Int)), .lit (.int .u64 s.credit), .rd 2 i (gf s)]]⟩)] [] ((k + 15, ⟨2, true, GR⟩) :: (k + 16, ⟨1, true, KR⟩) :: (k + 17, ⟨1, true, KR⟩) :: (k + 19, ⟨1, false, cpO (k + 20) i n i⟩) :: fam (k + 20) 3 i (fun _ => SR))] ?_; refine zq4 ⟨⟨⟨?_⟩⟩⟩ ⟨⟨⟨?_⟩⟩⟩ ⟨⟨⟨?_⟩⟩⟩ ⟨⟨⟨?_⟩⟩⟩
    · exact fun q => rfl
    · exact fun q hq => by
        rcases hq with hq | hq
        · simp [keyB, AM.look] at hq
        · have : k + 15 ≤ q := by
            simp only [keyB, AM.look] at hq
            repeat' (split at hq; (· omega))
            obtain ⟨B, hB⟩ := Option.isSome_iff_exists.1 hq
            have := look_famI hB
            omega
          simp only [AM.look]
          repeat rw [if_neg (by omega)]
    · exact hco
    have ho14 : ((cpO (k + 20) i n i).map fun row => row.map (sw0 (k + (21 + i)) (k + 14))) = cpO (k + 20) i n i := by
      rw [cpO_last, List.map_map]
      refine List.map_congr_left fun g hg => ?_
      have := List.mem_range.1 hg
      simp only [Function.comp, List.map_cons, List.map_nil, sw0, sw]
      rw [if_neg (by omega), if_neg (by omega)]
    refine W_mv (Mv.swap (k + (21 + i)) (k + 14) ⟨by omega, by omega⟩ ⟨by omega, by omega⟩) ?_
    have uU := @ho14
    refine rRL ?_; apply zN
    refine W_mv (Mv.phantom k 8 (B := ⟨3, true, [[.lit (.int .i64 (n : Int)), .lit (.int .u64 s.credit), .rd 2 i (gf s)]]⟩) (by simp (disch := omega) only [AM.look, nq0, ↓reduceIte]) (by omega)) ?_
    refine rRL ?_; apply zN
    rw [show k + (22 + i) = k + (21 + (i + 1)) by omega] at eMH eRH
    refine W_mv (Mv.nilrow (k + 14) 5 (k + (21 + (i + 1))) 0 0 (B := ⟨8, false, [[.lit (.int .i64 (n : Int)), .lit (.int .u64 s.credit), .sl (k + 15) 0 i, .sl (k + 16) 0 n, .sl (k + 17) 0 n, .lit (.slice none 0 0), .sl (k + 19) 0 i, .lit (.bool true)]]⟩) (T := ⟨8, true, []⟩) (by simp (disch := omega) only [AM.look, nq0, ↓reduceIte]) (by simp (disch := omega) only [AM.look, nq0, ↓reduceIte]) (by omega) rfl rfl rfl) ?_
    refine rRL ?_; apply zN
    have uU := @ho14; refine cRD ?_; apply zN
    refine ⟨?_, ?_⟩
    · rw [eRV]
    · rw [eRH, eMH]
      exact rRL hdT
end Go.Proofs.T
end
section
namespace Go.Proofs.T
open Go Go.AM Go.Proofs
set_option maxRecDepth 20000
variable {Γ : List (Nat × List AVal)}
structure Nums where
  c : Int
  g : Int
  cr : Int
  p : Nat → Int
  w : Nat → Int
def Nums.cells (x : Nums) : List AVal := [.lit (.int .u8 x.c), .lit (.int .u8 x.g), .lit (.int .u32 x.cr), .lit (.int .u8 (x.p 0)), .lit (.int .u8 (x.p 1)), .lit (.int .u8 (x.p 2)), .lit (.int .u8 (x.p 3)), .lit (.int .u8 (x.p 4)), .lit (.int .u16 (x.w 0)), .lit (.int .u16 (x.w 1)), .lit (.int .u16 (x.w 2)), .lit (.int .u16 (x.w 3)), .lit (.int .u16 (x.w 4))]
structure NumsOk (x : Nums) : Prop where
  c0 : 0 ≤ x.c
  c1 : x.c ≤ 255
  g0 : 0 ≤ x.g
  g1 : x.g ≤ 255
  r0 : 0 ≤ x.cr
  r1 : x.cr ≤ 4294967295
  p0 : ∀ i, i < 5 → 0 ≤ x.p i ∧ x.p i ≤ 255
  w0 : ∀ i, i < 5 → 0 ≤ x.w i ∧ x.w i ≤ 65535
theorem nums_p' {x : Nums} {i : Nat} (h : i < 5) : x.cells[3 + i * 1]? = some (.lit (.int .u8 (x.p i))) := by
  match i, h with
  | 0, _ => rfl
  | 1, _ => rfl
  | 2, _ => rfl
  | 3, _ => rfl
  | 4, _ => rfl
theorem nums_w' {x : Nums} {i : Nat} (h : i < 5) : x.cells[8 + i * 1]? = some (.lit (.int .u16 (x.w i))) := by
  match i, h with
  | 0, _ => rfl
  | 1, _ => rfl
  | 2, _ => rfl
  | 3, _ => rfl
  | 4, _ => rfl
def mkGD (x : Nums) : Nat → List (Int × Int) × List Int
  | 0 => ([(0, 1)], [0])
  | i + 1 =>
    let u0 := (x.p i % ((i : Int) + 1))
    let u := if (mkGD x i).2.getD u0.toNat 0 = 4 then 0 else u0
    ((mkGD x i).1 ++ [(u, 1 + x.w i)], (mkGD x i).2 ++ [(mkGD x i).2.getD u.toNat 0 + 1])
theorem mkGD_len (x : Nums) : ∀ i, (mkGD x i).1.length = i + 1 ∧ (mkGD x i).2.length = i + 1
  | 0 => ⟨rfl, rfl⟩
  | i + 1 => by
    obtain ⟨h1, h2⟩ := mkGD_len x i
    simp only [mkGD, List.length_append, List.length_cons, List.length_nil]
    omega
def dpR (l : List Int) : List (List AVal) := l.map fun d => [.lit (.int .i64 d)]
def cfgS (cpus cr : Int) (G : List (Int × Int)) : St := ⟨cpus, cr, G.length, fun i => (G.getD i (0, 0)).1, fun i => (G.getD i (0, 0)).2, 0, fun _ => 0, 0, fun _ => 0, 0, fun _ => default, 0, fun _ => 0, fun _ _ => ⟨0, 0, 0⟩⟩
theorem getD_snoc {α : Type} (l : List α) (a d : α) (j : Nat) : (l ++ [a]).getD j d = if j < l.length then l.getD j d else if j = l.length then a else d := by
  simp only [List.getD_eq_getElem?_getD, List.getElem?_append]
  by_cases h1 : j < l.length
  · rw [if_pos h1, if_pos h1]
  · rw [if_neg h1, if_neg h1]
    by_cases h2 : j = l.length
    · subst h2; simp
    · rw [if_neg h2, List.getElem?_eq_none (by simp; omega)]; rfl
structure MkOk (x : Nums) (i : Nat) : Prop where
  d : ∀ j, j ≤ i → 0 ≤ (mkGD x i).2.getD j 0 ∧ (mkGD x i).2.getD j 0 ≤ 4
  d0 : (mkGD x i).2.getD 0 0 = 0
  g0 : (mkGD x i).1.getD 0 (0, 0) = (0, 1)
  g : ∀ j, 1 ≤ j → j ≤ i → (0 ≤ ((mkGD x i).1.getD j (0, 0)).1 ∧ ((mkGD x i).1.getD j (0, 0)).1 < j) ∧ (1 ≤ ((mkGD x i).1.getD j (0, 0)).2 ∧ ((mkGD x i).1.getD j (0, 0)).2 ≤ 65536) ∧ (mkGD x i).2.getD j 0 = (mkGD x i).2.getD ((mkGD x i).1.getD j (0, 0)).1.toNat 0 + 1
theorem mk_ok {x : Nums} (hx : NumsOk x) : ∀ {i : Nat}, i ≤ 5 → MkOk x i
  | 0, _ => ⟨fun j hj => by obtain rfl : j = 0 := by omega
                            exact ⟨Int.le_refl _, by show (0 : Int) ≤ 4; omega⟩, rfl, rfl, fun j h1 h2 => by omega⟩
  | i + 1, hi => by
    obtain ⟨h1, h2, h3, h4⟩ := mk_ok hx (i := i) (by omega)
    obtain ⟨l1, l2⟩ := mkGD_len x i
    have hp := hx.p0 i (by omega)
    have hw := hx.w0 i (by omega)
    obtain ⟨D, eD⟩ : ∃ D, D = (mkGD x i).2 := ⟨_, rfl⟩
    obtain ⟨G, eG⟩ : ∃ G, G = (mkGD x i).1 := ⟨_, rfl⟩
    obtain ⟨u0, eu0⟩ : ∃ u, u = x.p i % ((i : Int) + 1) := ⟨_, rfl⟩
    have hu0 : 0 ≤ u0 ∧ u0 < (i : Int) + 1 := by rw [eu0]; exact ⟨Int.emod_nonneg _ (by omega), Int.emod_lt_of_pos _ (by omega)⟩
    obtain ⟨u, eu⟩ : ∃ u, u = (if D.getD u0.toNat 0 = 4 then 0 else u0) := ⟨_, rfl⟩
    rw [← eD] at h1 h2 h4 l2
    rw [← eG] at h3 h4 l1
    have hu : 0 ≤ u ∧ u < (i : Int) + 1 ∧ D.getD u.toNat 0 ≤ 3 := by
      rw [eu]
      split
      · exact ⟨Int.le_refl _, by omega, by show D.getD 0 0 ≤ 3; omega⟩
      · have := h1 u0.toNat (by omega); exact ⟨by omega, by omega, by omega⟩
    have eN : mkGD x (i + 1) = (G ++ [(u, 1 + x.w i)], D ++ [D.getD u.toNat 0 + 1]) := by simp only [mkGD, ← eD, ← eG, ← eu0, ← eu]
    have hdu := h1 u.toNat (by omega)
    have key : ∀ j, j ≤ i → (D ++ [D.getD u.toNat 0 + 1]).getD j 0 = D.getD j 0 := fun j hj => by rw [getD_snoc, if_pos (by omega)]
    have keyG : ∀ j, j ≤ i → (G ++ [(u, 1 + x.w i)]).getD j (0, 0) = G.getD j (0, 0) := fun j hj => by rw [getD_snoc, if_pos (by omega)]
    refine ⟨fun j hj => ?_, ?_, ?_, fun j hj hj2 => ?_⟩ <;> simp only [eN]
    · by_cases e : j ≤ i
      · rw [key j e]; exact h1 j e
      · rw [getD_snoc, if_neg (by omega), if_pos (by omega)]; omega
    · rw [key 0 (by omega)]; exact h2
    · rw [keyG 0 (by omega)]; exact h3
    · by_cases e : j ≤ i
      · have := h4 j hj e
        rw [keyG j e, key j e, key _ (by omega)]
        exact this
      · have ej : j = i + 1 := by omega
        have eg : (G ++ [(u, 1 + x.w i)]).getD j (0, 0) = (u, 1 + x.w i) := by rw [getD_snoc, if_neg (by omega), if_pos (by omega)]
        have ed : (D ++ [D.getD u.toNat 0 + 1]).getD j 0 = D.getD u.toNat 0 + 1 := by rw [getD_snoc, if_neg (by omega), if_pos (by omega)]
        rw [eg, ed]
        refine ⟨⟨hu.1, by show u < (j : Int); omega⟩, ⟨by show 1 ≤ 1 + x.w i; omega, by show 1 + x.w i ≤ 65536; omega⟩, ?_⟩
        show _ = (D ++ _).getD u.toNat 0 + 1
        rw [key _ (by omega)]
set_option maxHeartbeats 4000000 in
theorem lmade (x : Nums) (hx : NumsOk x) : AM.Pure Tryz.prog Γ 12 [.agg x.cells] (.agg (cfgS (1 + x.c % 4) x.cr (mkGD x (x.g % 6).toNat).1).cfg) := by
  obtain ⟨hc0, hc1, hg0, hg1, hr0, hr1, hp, hw⟩ := hx
  obtain ⟨q, hq⟩ : ∃ q : Nat, x.g % 6 = (q : Int) := ⟨(x.g % 6).toNat, by omega⟩
  have hq5 : q ≤ 5 := by omega
  rw [hq, Int.toNat_natCast]
  have e1 : x.c.tmod 4 = x.c % 4 := Int.tmod_eq_emod_of_nonneg hc0
  have e2 : x.g.tmod 6 = (q : Int) := by rw [Int.tmod_eq_emod_of_nonneg hg0, hq]
  have e3 : IntKind.i64.wrap x.c = x.c := wrap_i64 (by omega) (by omega)
  have e4 : IntKind.i64.wrap x.g = x.g := wrap_i64 (by omega) (by omega)
  have e5 : IntKind.i64.wrap (x.c % 4) = x.c % 4 := wrap_i64 (by omega) (by omega)
  have e6 : IntKind.i64.wrap (q : Int) = (q : Int) := wrap_i64 (by omega) (by omega)
  have e7 : IntKind.u64.wrap x.cr = x.cr := wrap_u64 (by omega) (by omega)
  have e8 : IntKind.i64.wrap (1 + x.c % 4) = 1 + x.c % 4 := wrap_i64 (by omega) (by omega)
  obtain ⟨RC, eRC⟩ : ∃ r, r = x.cells := ⟨_, rfl⟩
  refine Pure_at Tryz.func12 rfl 63 rfl (Nat.le_of_ble_eq_true rfl) rfl fun k => ?_
  have kp : Kp [0,1,2,3,4,5,6,22,23,24,39] (fun i => i - k) := kpI
  have uU := zA @Nums.cells.eq_1 (zA @e1 (zA @e2 (zA @e3 (zA @e4 (zA @e5 (zA @e6 (zA @e7 @e8)))))))
  refine wlL ?_; refine zq1 ⟨⟨⟨?_⟩⟩⟩
  refine M_forO (X := Nat) rfl [0,1,2,3,4,5,6,22,23,24,39] (k + 5) (fun i => [(23, .lit (.int .i64 (i : Int))), (4, .sl (k + 4) 0 (i + 1))]) (fun i => (k + 4, ⟨1, true, dpR (mkGD x i).2⟩) :: (k + 3, ⟨3, false, [[.lit (.int .i64 (1 + x.c % 4)), .lit (.int .u64 x.cr), .sl (k + 2) 0 (i + 1)]]⟩) :: (k + 2, ⟨2, true, (mkGD x i).1.map glc⟩) :: (k + 1, ⟨3, true, [[.lit (.int .i64 0), .lit (.int .u64 0), .lit (.slice none 0 0)]]⟩) :: [(k, ⟨13, true, [x.cells]⟩)]) (fun i => i ≤ q) (fun i => q - i) 0 ?_ (Nat.zero_le _) ?_
  · rw [show dpR (mkGD x 0).2 = [[.lit (.int .i64 0)]] from rfl, show (mkGD x 0).1.map glc = [[.lit (.int .i64 0), .lit (.int .i64 1)]] from rfl]
    refine rRL ?_; apply zN
    exact wkD
  intro i hi
  obtain ⟨D, eD⟩ : ∃ D, D = (mkGD x i).2 := ⟨_, rfl⟩
  obtain ⟨G, eG⟩ : ∃ G, G = (mkGD x i).1 := ⟨_, rfl⟩
  obtain ⟨l1, l2⟩ := mkGD_len x i
  rw [← eD, ← eG]
  rw [← eD] at l2
  rw [← eG] at l1
  refine rRL ?_; apply zN
  by_cases hi2 : i < q
  · have fp := nums_p' (x := x) (show i < 5 by omega)
    have fw := nums_w' (x := x) (show i < 5 by omega)
    simp only [Nums.cells] at fp fw
    have hpi := hp i (by omega)
    have hwi := hw i (by omega)
    obtain ⟨md, md0, mg0, mg⟩ := mk_ok ⟨hc0, hc1, hg0, hg1, hr0, hr1, hp, hw⟩ (i := i) (by omega)
    rw [← eD] at md md0
    obtain ⟨u0, eu0⟩ : ∃ u, u = x.p i % ((i : Int) + 1) := ⟨_, rfl⟩
    have hu0 : 0 ≤ u0 ∧ u0 < (i : Int) + 1 := by rw [eu0]; exact ⟨Int.emod_nonneg _ (by omega), Int.emod_lt_of_pos _ (by omega)⟩
    obtain ⟨v0, hv0⟩ : ∃ v : Nat, u0 = (v : Int) := ⟨u0.toNat, by omega⟩
    have f1 : (x.p i).tmod ((i : Int) + 1) = (v0 : Int) := by rw [Int.tmod_eq_emod_of_nonneg hpi.1, ← eu0, hv0]
    have f2 : IntKind.i64.wrap (x.p i) = x.p i := wrap_i64 (by omega) (by omega)
    have f3 : IntKind.i64.wrap (v0 : Int) = (v0 : Int) := wrap_i64 (by omega) (by omega)
    have f4 : ((i : Int) + 1 = 0) = False := eq_false (by omega)
    have f5 : (dpR D)[v0]? = some [.lit (.int .i64 (D.getD v0 0))] := by
      have : v0 < D.length := by omega
      simp [dpR, List.getD, this]
    have f6 : (dpR D).length = i + 1 := by simp [dpR, l2]
    have f7 : (G.map glc).length = i + 1 := by simp [l1]
    have f8 : IntKind.i64.wrap (x.w i) = x.w i := wrap_i64 (by omega) (by omega)
    have f9 : IntKind.i64.wrap (1 + x.w i) = 1 + x.w i := wrap_i64 (by omega) (by omega)
    have hdv := md v0 (by omega)
    have eN : ∀ u, u = (if D.getD v0 0 = 4 then 0 else (v0 : Int)) → mkGD x (i + 1) = (G ++ [(u, 1 + x.w i)], D ++ [D.getD u.toNat 0 + 1]) := fun u hu => by
      have e := hu0
      simp only [mkGD, ← eD, ← eG, ← eu0, hv0, Int.toNat_natCast]
      rw [← hu]
    by_cases hd4 : D.getD v0 0 = 4
    · have eN := eN 0 (by rw [if_pos hd4])
      have eN : mkGD x (i + 1) = (G ++ [(0, 1 + x.w i)], D ++ [1]) := by
        rw [eN]
        show (_, D ++ [D.getD 0 0 + 1]) = _
        rw [md0]
        rfl
      have g1 : (dpR D)[0]? = some [.lit (.int .i64 0)] := by
        have h0 : 0 < D.length := by omega
        have : D.getD 0 0 = 0 := md0
        rw [List.getD, List.getElem?_eq_getElem h0] at this
        simp only [Option.getD_some] at this
        simp [dpR, this, h0]
      have g2 : IntKind.i64.wrap (0 + 1) = 1 := rfl
      have uU := zA @fp (zA @fw (zA @f1 (zA @f2 (zA @f3 (zA @f4 (zA @f5 (zA @f6 (zA @f7 (zA @f8 (zA @f9 (zA @g1 @g2)))))))))))
      refine wlL ?_; refine zq1 ⟨fun ht ht => ⟨⟨?_⟩⟩⟩
      refine ⟨i + 1, by omega, by omega, ?_⟩
      rw [eN]
      simp only [dpR, List.map_append, List.map_cons, List.map_nil, glc]
      refine Mv.trans (Mv.swap (k + 6) (k + 4) ⟨by omega, by omega⟩ ⟨by omega, by omega⟩) ?_
      refine rRL ?_; apply zN
      refine Mv.trans (Mv.swap (k + 8) (k + 2) ⟨by omega, by omega⟩ ⟨by omega, by omega⟩) ?_
      refine rRL ?_; apply zN
      exact wkD
    · have eN := eN (v0 : Int) (by rw [if_neg hd4])
      have g2 : IntKind.i64.wrap (D.getD v0 0 + 1) = D.getD v0 0 + 1 := wrap_i64 (by omega) (by omega)
      have uU := zA @fp (zA @fw (zA @f1 (zA @f2 (zA @f3 (zA @f4 (zA @f5 (zA @f6 (zA @f7 (zA @f8 (zA @f9 @g2))))))))))
      refine wlL ?_; refine zq1 ⟨fun ht ht => ⟨⟨?_⟩⟩⟩
      refine ⟨i + 1, by omega, by omega, ?_⟩
      rw [eN, Int.toNat_natCast]
      simp only [dpR, List.map_append, List.map_cons, List.map_nil, glc]
      refine Mv.trans (Mv.swap (k + 6) (k + 4) ⟨by omega, by omega⟩ ⟨by omega, by omega⟩) ?_
      refine rRL ?_; apply zN
      refine Mv.trans (Mv.swap (k + 8) (k + 2) ⟨by omega, by omega⟩ ⟨by omega, by omega⟩) ?_
      refine rRL ?_; apply zN
      exact wkD
  · have hiq : i = q := by omega
    subst hiq
    have uU := Go.AM.uU
    refine wlL ?_; refine zq1 ⟨fun ht => ⟨⟨?_⟩⟩⟩
    refine W_mv (Mv.freeze (k + 2) (B := ⟨2, true, G.map glc⟩) (by simp (disch := omega) only [AM.look, nq0, ↓reduceIte]) rfl) ?_
    simp -dsimp -implicitDefEqProofs only [frzF, frz_app, go_sem, List.length_map, l1, Nat.le_refl, eq_self, ↓reduceIte]
    refine C_ret rfl ?_; simp -dsimp -implicitDefEqProofs (disch := omega) only [go_sem, nq0, List.length_map, l1, Nat.le_refl, eq_self, ↓reduceIte]; refine ⟨_, rfl, ?_⟩
    have hG : VLe (.rd 2 (i + 1) (fun j => (G.map glc).getD j [])) (.rd 2 (i + 1) (gf (cfgS (1 + x.c % 4) x.cr G))) := VLe.rd fun j hj => by
      have : j < G.length := by omega
      simp [List.getD, this, glc, gf, cfgS]
    refine VLe.aggs (.cons (VLe.refl _) (.cons (VLe.refl _) (.cons ?_ .nil)))
    rw [← eG, show (cfgS (1 + x.c % 4) x.cr G).ng = i + 1 from l1]
    exact hG
theorem rdep_mk {x : Nums} {q : Nat} (hk : MkOk x q) (cp cr : Int) : ∀ (f g n : Nat), g ≤ q → (mkGD x q).2.getD g 0 < f → rdep (cfgS cp cr (mkGD x q).1).par f g n = n + ((mkGD x q).2.getD g 0).toNat
  | 0, g, n, hg, hf => by have := hk.d g hg; omega
  | f + 1, g, n, hg, hf => by
    rw [rdep]
    by_cases h0 : g = 0
    · subst h0
      rw [if_pos rfl, hk.d0]; rfl
    · rw [if_neg h0]
      obtain ⟨⟨a1, a2⟩, a3, a4⟩ := hk.g g (by omega) hg
      have ep : (cfgS cp cr (mkGD x q).1).par g = ((mkGD x q).1.getD g (0, 0)).1 := rfl
      rw [ep, if_neg (by omega)]
      have hd := hk.d ((mkGD x q).1.getD g (0, 0)).1.toNat (by omega)
      rw [rdep_mk hk cp cr f _ (n + 1) (by omega) (by omega)]
      omega
theorem cfg_mk {x : Nums} (hx : NumsOk x) {q : Nat} (hq : q ≤ 5) : refCfg (cfgS (1 + x.c % 4) x.cr (mkGD x q).1) = true := by
  have hk := mk_ok hx hq
  have hl := (mkGD_len x q).1
  have hr0 := hx.r0
  have hr1 := hx.r1
  have hc0 := hx.c0
  have ng : (cfgS (1 + x.c % 4) x.cr (mkGD x q).1).ng = q + 1 := hl
  have g0 := hk.g0
  simp only [refCfg, Bool.and_eq_true, decide_eq_true_eq, Option.isNone_iff_eq_none]
  refine ⟨⟨?_, ?_, ?_, by omega, by omega, ?_, ?_⟩, fb_none_iff.2 fun g h1 h2 => ?_⟩
  · show 1 ≤ 1 + x.c % 4; omega
  · show 1 + x.c % 4 ≤ 64; omega
  · show x.cr ≤ 1099511627776; omega
  · show ((mkGD x q).1.getD 0 (0, 0)).1 = 0; rw [g0]
  · show ((mkGD x q).1.getD 0 (0, 0)).2 = 1; rw [g0]
  · rw [ng] at h2
    obtain ⟨a1, a3, a4⟩ := hk.g g h1 (by omega)
    have hd := hk.d g (by omega)
    simp only [okR, okW, Bool.and_eq_true, decide_eq_true_eq]
    refine ⟨a3, ?_⟩
    rw [rdep_mk hk _ _ 5 g 0 (by omega) (by omega)]
    omega
theorem lst_empty {L : LSt} (h : L.tl = []) : ∀ (f g c : Nat), leastF L f g c = none
  | 0, _, _ => rfl
  | f + 1, g, c => by
    rw [leastF]
    have ih := lst_empty h f
    have : ∀ i, lS L (fun h => leastF L f h c) g c i = none := fun i => by
      induction i with
      | zero => rw [lS, h]; rfl
      | succ i hi => rw [lS, if_neg (by rw [ih]; simp), hi]
    exact this _
theorem newL_gl (cp cr : Int) (G : List (Int × Int)) (n : Nat) : (newL (cfgS cp cr G) n).gl = G := List.ext_getElem? fun j => by
  show ((List.range G.length).map fun i => ((G.getD i (0, 0)).1, (G.getD i (0, 0)).2))[j]? = G[j]?
  by_cases h : j < G.length
  · simp [h, List.getD]
  · rw [List.getElem?_eq_none (by simp; omega), List.getElem?_eq_none (by omega)]
theorem newL_sp (s : St) (n g c : Nat) : (newL s n).sp g c = ⟨0, 0, 0⟩ := by
  unfold LSt.sp
  show ((List.replicate s.ng (List.replicate n (⟨0, 0, 0⟩ : Sp))).getD g []).getD c default = _
  simp only [List.getD_eq_getElem?_getD, List.getElem?_replicate]
  split
  · simp only [Option.getD_some, List.getElem?_replicate]
    split
    · rfl
    · rfl
  · simp; rfl
theorem getD_rep {n i : Nat} : (List.replicate n (0 : Int)).getD i 0 = 0 := by
  simp only [List.getD_eq_getElem?_getD, List.getElem?_replicate]
  split <;> rfl
theorem newL_ok {x : Nums} (hx : NumsOk x) {q n : Nat} (hq : q ≤ 5) (hn : 1 + x.c % 4 = (n : Int)) : Rt (newL (cfgS (1 + x.c % 4) x.cr (mkGD x q).1) n) n := by
  have hk := mk_ok hx hq
  have hl := (mkGD_len x q).1
  have hc0 := hx.c0
  obtain ⟨s, es⟩ : ∃ s, s = cfgS (1 + x.c % 4) x.cr (mkGD x q).1 := ⟨_, rfl⟩
  have hcfg := cfg_mk hx hq
  have gl : (newL s n).gl = (mkGD x q).1 := by rw [es]; exact newL_gl _ _ _ _
  have sng : s.ng = q + 1 := by rw [es]; exact hl
  have hsl : (newL s n).sl.length = q + 1 := by simp [newL, sng]
  have hpar : ∀ g, (newL s n).par g = ((mkGD x q).1.getD g (0, 0)).1 := fun g => by unfold LSt.par; rw [gl]
  have hwt : ∀ g, (newL s n).wt g = ((mkGD x q).1.getD g (0, 0)).2 := fun g => by unfold LSt.wt; rw [gl]
  have hcp : (newL s n).cpus = n := by show s.cpus = n; rw [es]; exact hn
  have hcr : (newL s n).credit = x.cr := by show s.credit = x.cr; rw [es]; rfl
  have hr0 := hx.r0
  have hr1 := hx.r1
  rw [← es] at hcfg ⊢
  have hent : ∀ w : Int, 1 ≤ w → w ≤ 65536 → SpOk ⟨0, 0, 0⟩ w := fun w h1 h2 => ⟨by simp [ent]; omega, Int.le_refl _, by show (0 : Int) ≤ _; omega, Int.le_refl _, Int.le_refl _, by show (0 : Int) ≤ _; omega⟩
  refine ⟨⟨by omega, by omega, hcp, by omega, by omega, by rw [gl, hl, hsl], by omega, by omega, by simp [newL], by simp [newL], fun g hg => ?_, Nat.zero_le _, fun g h0 hg => ?_, ?_, fun g hg => ?_, fun c hc => ?_, fun g c hg hc => ?_, fun c hc => ?_, fun i hi => absurd hi (Nat.not_lt_zero _), fun a b _ hb => absurd hb (Nat.not_lt_zero _), fun c hc => ?_⟩, fun g c hg hc y hy => ?_, ?_⟩
  · have : g < s.ng := by omega
    simp [newL, List.getD, this]
  · rw [hpar]; exact (hk.g g h0 (by omega)).1
  · rw [hpar, hk.g0]
  · rw [hwt]
    by_cases h0 : g = 0
    · subst h0; rw [hk.g0]; exact ⟨Int.le_refl _, by show (1 : Int) ≤ 65536; omega⟩
    · exact (hk.g g (by omega) (by omega)).2.1
  · have : (newL s n).clk c = 0 := getD_rep
    rw [this]; omega
  · rw [newL_sp]
    refine hent _ ?_ ?_ <;> rw [hwt] <;> (by_cases h0 : g = 0)
    · subst h0; rw [hk.g0]; exact Int.le_refl _
    · exact (hk.g g (by omega) (by omega)).2.1.1
    · subst h0; rw [hk.g0]; show (1 : Int) ≤ 65536; omega
    · exact (hk.g g (by omega) (by omega)).2.1.2
  · rw [newL_sp]; exact ⟨rfl, rfl⟩
  · left; exact getD_rep
  · unfold lst at hy
    rw [lst_empty rfl] at hy
    cases hy
  · simp only [refCfg, Bool.and_eq_true, decide_eq_true_eq, Option.isNone_iff_eq_none] at hcfg ⊢
    have e1 : (newL s n).st.ng = s.ng := by show (newL s n).gl.length = s.ng; rw [gl, hl, sng]
    have e2 : (newL s n).st.par = s.par := funext fun g => by show (newL s n).par g = _; rw [hpar, es]; rfl
    have e3 : (newL s n).st.wt = s.wt := funext fun g => by show (newL s n).wt g = _; rw [hwt, es]; rfl
    have e4 : okR (newL s n).st = okR s := funext fun g => by simp only [okR, okW, e2, e3]
    rw [e1, e2, e3, e4]
    exact hcfg
end Go.Proofs.T
end
section
namespace Go.Proofs.T
open Go Go.AM Go.Proofs
set_option maxRecDepth 20000
variable {Γ : List (Nat × List AVal)}
def Tk.slp (t : Tk) : Tk := { t with ready := false }
def LSt.lv (L : LSt) (c i : Nat) : LSt := (L.setU c 0).setT i (L.tsk i).slp
def LSt.del (L : LSt) (i : Nat) : LSt := { L with tl := L.tl.eraseIdx i }
theorem lv_ok {L : LSt} {n c i : Nat} (h : Rt0 L n) (hc : c < n) (hi : i < L.tl.length) (hid : (L.tsk i).id = L.cur c) (hic : (L.tsk i).cpu = c) : Rt0 (L.lv c i) n ∧ Fwd L (L.lv c i) ∧ (∀ d, d < n → (L.lv c i).cur d ≠ (L.tsk i).id) := by
  have h1 : Rt0 (L.setU c 0) n := h.setU hc (.inl rfl)
  have hT := h.tk i hi
  have hcu : ∀ d, d < n → (L.setU c 0).cur d ≠ (L.tsk i).id := fun d hd e => by
    rw [setU_cur (by rw [h.nu]; exact hc)] at e
    split at e
    · have := hT.id1; omega
    · rename_i hne
      rcases h.cur d hd with h0 | ⟨j, h2, h3, h4, h5⟩
      · have := hT.id1; omega
      · have hji : j = i := by
          rcases Nat.lt_trichotomy j i with hl | hl | hl
          · have := h.sorted j i hl hi; omega
          · exact hl
          · have := h.sorted i j hl h2; omega
        subst hji
        rw [hic] at h4
        omega
  refine ⟨h1.setT hi ⟨hT.id1, hT.id2, hT.g0, hT.g1, hT.c0, hT.c1, hT.e, hT.v0, hT.v1, hT.r0, hT.m0, hT.m1, hT.m2, hT.m3⟩ rfl (fun d hd hcc _ _ => absurd hcc (hcu d hd)), ?_, hcu⟩
  have h2 : Fwd L (L.setU c 0) := ⟨rfl, rfl, rfl, fun _ => rfl, fun _ => Int.le_refl _, fun _ _ => Int.le_refl _, Nat.le_succ _, rfl⟩
  exact h2.trans (Fwd.setT (L := L.setU c 0) (i := i) (t := (L.tsk i).slp)) (.inl setT_len)
theorem del_tsk {L : LSt} {i j : Nat} (hi : i < L.tl.length) : (L.del i).tsk j = if j < i then L.tsk j else L.tsk (j + 1) := by
  unfold LSt.del LSt.tsk
  simp only [List.getD_eq_getElem?_getD, List.getElem?_eraseIdx]
  split <;> rfl
theorem del_len {L : LSt} {i : Nat} (hi : i < L.tl.length) : (L.del i).tl.length = L.tl.length - 1 := by
  unfold LSt.del; exact List.length_eraseIdx_of_lt hi
theorem del_ok {L : LSt} {n i : Nat} (h : Rt0 L n) (hi : i < L.tl.length) (hcu : ∀ d, d < n → L.cur d ≠ (L.tsk i).id) : Rt0 (L.del i) n ∧ Fwd L (L.del i) := by
  have hl := del_len hi
  have key : ∀ x, TkOk L n x → TkOk (L.del i) n x := fun x q => ⟨q.id1, q.id2, q.g0, q.g1, q.c0, q.c1, q.e, q.v0, q.v1, q.r0, q.m0, q.m1, q.m2, q.m3⟩
  refine ⟨⟨h.n1, h.n64, h.cpus, h.cr0, h.cr, h.ng, h.ns1, h.ns, h.nk, h.nu, h.rows, by have := h.nt; omega, h.par, h.par0, h.wt, h.clk, h.sp, h.root, fun j hj => ?_, fun a b hab hb => ?_, fun c hc => ?_⟩, ⟨rfl, rfl, rfl, fun _ => rfl, fun _ => Int.le_refl _, fun _ _ => Int.le_refl _, by omega, rfl⟩⟩
  · rw [del_tsk hi]
    split
    · exact key _ (h.tk j (by omega))
    · exact key _ (h.tk (j + 1) (by omega))
  · rw [del_tsk hi, del_tsk hi]
    split <;> split
    · exact h.sorted a b hab (by omega)
    · exact h.sorted a (b + 1) (by omega) (by omega)
    · omega
    · exact h.sorted (a + 1) (b + 1) (by omega) (by omega)
  · rcases h.cur c hc with h0 | ⟨j, h1, h2, h3, h4⟩
    · exact .inl h0
    · refine .inr ?_
      have hji : j ≠ i := fun e => by subst e; exact hcu c hc h4.symm
      by_cases e : j < i
      · exact ⟨j, by omega, by rw [del_tsk hi, if_pos e]; exact ⟨h2, h3, h4⟩⟩
      · refine ⟨j - 1, by omega, ?_⟩
        rw [del_tsk hi, if_neg (by omega), show j - 1 + 1 = j by omega]
        exact ⟨h2, h3, h4⟩
theorem erase_map {α β : Type} (f : α → β) : ∀ (l : List α) (i : Nat), (l.eraseIdx i).map f = (l.map f).eraseIdx i
  | [], _ => rfl
  | a :: r, 0 => rfl
  | a :: r, i + 1 => by simp only [List.eraseIdx, List.map_cons, erase_map f r i]
theorem MH_del {m tk i : Nat} {L : LSt} (hi : i < L.tl.length) : MH m tk (L.del i) = (m, ⟨8, false, [[.lit (.int .i64 L.cpus), .lit (.int .u64 L.credit), .sl (m + 1) 0 L.gl.length, .sl (m + 2) 0 L.kl.length, .sl (m + 3) 0 L.ul.length, .sl tk 0 (L.tl.length - 1), .sl (m + 5) 0 L.sl.length, .lit (.bool true)]]⟩) :: (m + 1, ⟨2, true, glR L⟩) :: (m + 2, ⟨1, true, klR L⟩) :: (m + 3, ⟨1, true, ulR L⟩) :: (m + 5, ⟨1, false, ouR m L⟩) :: (tk, ⟨8, true, (tlR L).eraseIdx i⟩) :: fam (m + 6) 3 L.sl.length (slR L) := by
  rw [MH, LH, mrow, del_len hi, tlR]
  have e : ((L.del i).tl.map tkc) = (tlR L).eraseIdx i := erase_map tkc L.tl i
  rw [e]
  rfl
theorem tlR_one (L : LSt) : ((tlR L).all fun row => row.all AM.one) = true := by
  rw [List.all_eq_true]
  intro row h
  simp only [tlR, List.mem_map] at h
  obtain ⟨t, _, rfl⟩ := h
  rfl
end Go.Proofs.T
end
