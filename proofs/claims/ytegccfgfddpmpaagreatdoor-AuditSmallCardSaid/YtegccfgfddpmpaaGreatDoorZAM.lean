import Derived.Test.YtegccfgfddpmpaaGreatDoorZAL
import Derived.Shelf.Strconv.Itoa3
import Derived.Shelf.Strconv.AtoiAll
import Derived.Shelf.Strings.Split
import Derived.Test.YtegccfgfddpmpaaGreatDoorProg
import Derived.KernelRfl

section
set_option linter.unusedVariables false
set_option linter.unusedSimpArgs false
namespace Go.Proofs.T
open Go Go.Lib Go.AM
def nmL : List (List UInt8) := [[], [99, 111, 110, 102, 105, 103], [115, 104, 97, 112, 101], [99, 108, 111, 99, 107], [111, 114, 100, 101, 114], [105, 100], [103, 114, 111, 117, 112], [99, 112, 117], [109, 97, 115, 107], [112, 108, 97, 99, 101], [116, 97, 115, 107], [115, 112, 111, 116], [114, 111, 111, 116], [99, 117, 114, 114, 101, 110, 116], [102, 108, 111, 111, 114], [98, 97, 99, 107], [102, 101, 108, 108], [111, 116, 104, 101, 114]]
def nm (r : Nat) : List UInt8 := nmL.getD r []
theorem nm_big {r : Nat} (h : 18 ≤ r) : nm r = [] := by unfold nm; rw [List.getD, List.getElem?_eq_none (by simpa [nmL] using h)]; rfl
theorem nm_facts : ((List.range 18).all fun r => (!(nm r).contains 32) && (decide (nm r = []) == decide (r = 0)) && ((List.range 18).all fun q => !(decide (nm r = nm q)) || decide (r = q))) = true := by decide +kernel
theorem nm_no32 (r : Nat) : (32 : UInt8) ∉ nm r := by
  by_cases h : r < 18
  · have := List.all_eq_true.1 nm_facts r (List.mem_range.2 h)
    simp only [Bool.and_eq_true, Bool.not_eq_true', List.contains_eq_mem, decide_eq_false_iff_not] at this
    exact this.1.1
  · rw [nm_big (by omega)]; simp
theorem nm_nil {r : Nat} : nm r = [] ↔ (r = 0 ∨ 18 ≤ r) := by
  by_cases h : r < 18
  · have := List.all_eq_true.1 nm_facts r (List.mem_range.2 h)
    simp only [Bool.and_eq_true, beq_iff_eq, decide_eq_decide] at this
    rw [this.1.2]; omega
  · rw [nm_big (by omega)]; simp; omega
theorem nm_inj {r q : Nat} (hr : r < 18) (hq : q < 18) (h : nm r = nm q) : r = q := by
  have := List.all_eq_true.1 nm_facts r (List.mem_range.2 hr)
  simp only [Bool.and_eq_true] at this
  have := List.all_eq_true.1 this.2 q (List.mem_range.2 hq)
  simpa [h] using this
def txt (r : Nat) (a b : Int) : List UInt8 := nm r ++ 32 :: (itoa a ++ 32 :: itoa b)
def ruleGo (w : List UInt8) : Nat → Nat
  | 0 => 0
  | i + 1 => if nm i = w then i else ruleGo w i
theorem ruleGo_nm {r : Nat} (h : r < 18) : ∀ i, r < i → i ≤ 18 → ruleGo (nm r) i = r
  | 0, h1, _ => by omega
  | i + 1, h1, h2 => by
    rw [ruleGo]
    split
    · rename_i e; exact nm_inj (by omega) h e
    · rename_i e
      by_cases hi : r = i
      · subst hi; exact absurd rfl e
      · exact ruleGo_nm h i (by omega) (by omega)
theorem ruleGo_lt (w : List UInt8) : ∀ i, ruleGo w i ≤ i
  | 0 => Nat.le_refl _
  | i + 1 => by rw [ruleGo]; split; · omega
                · have := ruleGo_lt w i; omega
def textOk (r : Nat) (a b : Int) : Bool := decide (nm r ≠ []) && decide (0 ≤ a) && decide (0 ≤ b)
abbrev RdV := (Nat × Int × Int) × Int
def rdErr : RdV := ((0, 0, 0), 321)
def readP (s : List UInt8) : RdV :=
  if (split s [32]).length = 3 then
    (if textOk (ruleGo ((split s [32]).getD 0 []) 18) (atoiV ((split s [32]).getD 1 [])) (atoiV ((split s [32]).getD 2 [])) = true ∧
        txt (ruleGo ((split s [32]).getD 0 []) 18) (atoiV ((split s [32]).getD 1 [])) (atoiV ((split s [32]).getD 2 [])) = s then
      ((ruleGo ((split s [32]).getD 0 []) 18, atoiV ((split s [32]).getD 1 []), atoiV ((split s [32]).getD 2 [])), 0) else rdErr)
  else rdErr
structure Is (s : List UInt8) (r : Nat) (a b : Int) : Prop where
  r1 : 1 ≤ r
  r2 : r ≤ 17
  a0 : 0 ≤ a
  a1 : a ≤ 9223372036854775807
  b0 : 0 ≤ b
  b1 : b ≤ 9223372036854775807
  eq : s = txt r a b
theorem atoiV_bounds (l : List UInt8) : -9223372036854775808 ≤ atoiV l ∧ atoiV l ≤ 9223372036854775807 := by
  unfold atoiV
  cases h : atoiAll l
  · rename_i v
    simp only []
    unfold atoiAll at h
    split at h
    · cases h
    · rename_i c r
      simp only [] at h
      split at h
      · cases h
      · cases h
      · rename_i u hu
        split at h
        · cases h
        · split at h
          · cases h
          · injection h with h
            split at h <;> omega
  · simp
  · simp only [atoiSat]; split <;> omega
theorem readP_is {s : List UInt8} {r : Nat} {a b : Int} (h : Is s r a b) : readP s = ((r, a, b), 0) := by
  obtain ⟨h1, h2, h3, h4, h5, h6, rfl⟩ := h
  have hsp : split (txt r a b) [32] = [nm r, itoa a, itoa b] := by
    unfold txt; rw [split_cons (nm_no32 r), split_cons (itoa_no32 a), split_one (itoa_no32 b)]
  have ha : atoiV (itoa a) = a := by unfold atoiV; rw [atoi_itoa a (by omega) (by omega)]
  have hb : atoiV (itoa b) = b := by unfold atoiV; rw [atoi_itoa b (by omega) (by omega)]
  unfold readP
  rw [hsp, if_pos (by rfl)]
  simp only [List.getD_cons_zero, List.getD_cons_succ]
  rw [ruleGo_nm (by omega) 18 (by omega) (by omega), ha, hb]
  have hok : textOk r a b = true := by
    simp only [textOk, Bool.and_eq_true, decide_eq_true_eq, ne_eq]
    exact ⟨⟨fun e => by rw [nm_nil] at e; omega, h3⟩, h5⟩
  rw [if_pos ⟨hok, rfl⟩]
theorem readP_cases (s : List UInt8) : (∃ r a b, Is s r a b ∧ readP s = ((r, a, b), 0)) ∨ readP s = rdErr := by
  unfold readP
  split
  · generalize hr : ruleGo ((split s [32]).getD 0 []) 18 = r
    split
    · rename_i h
      refine .inl ⟨_, _, _, ?_, rfl⟩
      obtain ⟨h1, h2⟩ := h
      simp only [textOk, Bool.and_eq_true, decide_eq_true_eq, ne_eq] at h1
      have hn := h1.1.1
      rw [nm_nil] at hn
      exact ⟨by omega, by omega, h1.1.2, (atoiV_bounds _).2, h1.2, (atoiV_bounds _).2, h2.symm⟩
    · exact .inr rfl
  · exact .inr rfl
def numGo (n i : Nat) : List UInt8 → Option Nat × Nat
  | [] => (some n, i)
  | c :: r => if dig c = true then (if (9223372036854775807 - (c.toNat - 48)) / 10 < n then (none, i) else numGo (10 * n + (c.toNat - 48)) (i + 1) r) else (some n, i)
def numEnd (s : List UInt8) (x : Option Nat × Nat) : Int × Nat := match x with
  | (none, i) => (-1, i)
  | (some n, i) => if i = 0 ∨ (s.head? = some 48 ∧ 1 < i) then (-1, i) else ((n : Int), i)
def numP (s : List UInt8) : Int × Nat := numEnd s (numGo 0 0 s)
def Stops (l : List UInt8) : Prop := ∀ c r, l = c :: r → dig c = false
theorem numGo_hit (rest : List UInt8) (hr : Stops rest) (ds : List UInt8) : ∀ (n i : Nat), (∀ c ∈ ds, dig c = true) → valF n ds ≤ 9223372036854775807 → numGo n i (ds ++ rest) = (some (valF n ds), i + ds.length) := by
  induction ds with
  | nil =>
    intro n i _ _
    cases rest with
    | nil => rfl
    | cons c r => rw [List.nil_append, numGo, if_neg (by rw [hr c r rfl]; simp)]; rfl
  | cons c ds ih =>
    intro n i hd hv
    have hc := hd c (List.mem_cons_self ..)
    have hc' := dig_iff.1 hc
    rw [valF_cons] at hv ⊢
    have hge := valF_ge ds (n * 10 + (c.toNat - 48))
    have hm : 10 * n + (c.toNat - 48) = n * 10 + (c.toNat - 48) := by omega
    rw [List.cons_append, numGo, if_pos hc, if_neg (by omega), hm, ih _ _ (fun c h => hd c (List.mem_cons_of_mem _ h)) hv]
    simp only [List.length_cons]; congr 1; omega
theorem numGo_is (l : List UInt8) : ∀ (n i m j : Nat), n ≤ 9223372036854775807 → numGo n i l = (some m, j) → ∃ ds rest, l = ds ++ rest ∧ (∀ c ∈ ds, dig c = true) ∧ j = i + ds.length ∧ m = valF n ds ∧ m ≤ 9223372036854775807 := by
  induction l with
  | nil => intro n i m j hn h; cases h; exact ⟨[], [], rfl, by simp, rfl, rfl, hn⟩
  | cons c l ih =>
    intro n i m j hn h
    rw [numGo] at h
    split at h
    · rename_i hc
      have hc' := dig_iff.1 hc
      split at h
      · cases h
      · obtain ⟨ds, rest, rfl, h1, h2, h3, h4⟩ := ih _ _ _ _ (by omega) h
        refine ⟨c :: ds, rest, rfl, fun x hx => ?_, by rw [List.length_cons]; omega, ?_, h4⟩
        · rcases List.mem_cons.1 hx with rfl | hx
          · exact hc
          · exact h1 x hx
        · have hm : 10 * n + (c.toNat - 48) = n * 10 + (c.toNat - 48) := by omega
          rw [valF_cons, h3, hm]
    · cases h; exact ⟨[], c :: l, rfl, by simp, rfl, rfl, hn⟩
theorem numP_hit (a : Nat) (rest : List UInt8) (ha : a ≤ 9223372036854775807) (hr : Stops rest) : numP (decDigits a ++ rest) = ((a : Int), (decDigits a).length) := by
  have hc := dec_canon a
  unfold numP
  rw [numGo_hit rest hr (decDigits a) 0 0 hc.all (by rw [dec_val]; exact ha), dec_val, Nat.zero_add]
  unfold numEnd
  simp only []
  have hl : (decDigits a).length ≠ 0 := fun e => hc.ne (List.length_eq_zero_iff.1 e)
  rw [if_neg]
  rintro (h | ⟨h1, h2⟩)
  · exact hl h
  · have : (decDigits a).head? = some 48 := by
      obtain ⟨x, m, e⟩ := List.exists_cons_of_ne_nil hc.ne
      rw [e] at h1 ⊢; simpa using h1
    have := hc.head this
    omega
theorem numP_is {s : List UInt8} {a : Int} {j : Nat} (h : numP s = (a, j)) (ha : 0 ≤ a) : ∃ (n : Nat) (rest : List UInt8), a = n ∧ s = decDigits n ++ rest ∧ j = (decDigits n).length ∧ n ≤ 9223372036854775807 := by
  unfold numP numEnd at h
  split at h
  · cases h; omega
  · rename_i n i hg
    obtain ⟨ds, rest, hs, h1, h2, h3, h4⟩ := numGo_is s 0 0 n i (by omega) hg
    split at h
    · cases h; omega
    · rename_i hnot
      cases h
      have hcan : Canon ds := by
        refine ⟨fun e => hnot (.inl (by rw [h2, e]; rfl)), h1, fun e => ?_⟩
        by_cases hl : ds.length = 1
        · exact hl
        · exfalso
          have hne : ds ≠ [] := fun e => hnot (.inl (by rw [h2, e]; rfl))
          have : ds.length ≠ 0 := fun e => hne (List.length_eq_zero_iff.1 e)
          refine hnot (.inr ⟨?_, by omega⟩)
          obtain ⟨x, m, e'⟩ := List.exists_cons_of_ne_nil hne
          rw [hs, e']; rw [e'] at e; simpa using e
      have hd : decDigits n = ds := by rw [h3]; exact dec_of hcan
      exact ⟨n, rest, rfl, by rw [hd]; exact hs, by rw [hd]; omega, h4⟩
def rdRest (r : Nat) (rest : List UInt8) : RdV :=
  if (numP rest).1 < 0 ∨ rest.length ≤ (numP rest).2 ∨ rest.getD (numP rest).2 0 ≠ 32 then rdErr
  else if (numP (rest.drop ((numP rest).2 + 1))).1 < 0 ∨ (numP rest).2 + 1 + (numP (rest.drop ((numP rest).2 + 1))).2 ≠ rest.length then rdErr
  else ((r, (numP rest).1, (numP (rest.drop ((numP rest).2 + 1))).1), 0)
def rdGo (s : List UInt8) : Nat → Nat → RdV
  | 0, _ => rdErr
  | k + 1, r => if nm r ++ [32] = s.take (nm r ++ [32]).length then rdRest r (s.drop (nm r ++ [32]).length) else rdGo s k (r + 1)
def readR (s : List UInt8) : RdV := rdGo s 17 1
theorem rdRest_is {r : Nat} {a b : Int} (ha : 0 ≤ a) (ha1 : a ≤ 9223372036854775807) (hb : 0 ≤ b) (hb1 : b ≤ 9223372036854775807) : rdRest r (itoa a ++ 32 :: itoa b) = ((r, a, b), 0) := by
  obtain ⟨x, rfl⟩ := Int.eq_ofNat_of_zero_le ha
  obtain ⟨y, rfl⟩ := Int.eq_ofNat_of_zero_le hb
  rw [itoa_nat, itoa_nat]
  have h1 := numP_hit x (32 :: decDigits y) (by omega) (fun c r e => by cases e; rfl)
  have h2 := numP_hit y [] (by omega) (fun c r e => by cases e)
  rw [List.append_nil] at h2
  have hd : (decDigits x ++ 32 :: decDigits y).drop ((decDigits x).length + 1) = decDigits y := by rw [← List.drop_drop, List.drop_left]; rfl
  unfold rdRest
  rw [h1]
  simp only []
  rw [hd, h2]
  simp only []
  rw [if_neg, if_neg]
  · rintro (h | h)
    · omega
    · simp only [List.length_append, List.length_cons] at h; omega
  · rintro (h | h | h)
    · omega
    · simp only [List.length_append, List.length_cons] at h; omega
    · simp at h
theorem rdRest_cases (r : Nat) (rest : List UInt8) : (∃ a b, rest = itoa a ++ 32 :: itoa b ∧ 0 ≤ a ∧ a ≤ 9223372036854775807 ∧ 0 ≤ b ∧ b ≤ 9223372036854775807 ∧ rdRest r rest = ((r, a, b), 0)) ∨ rdRest r rest = rdErr := by
  unfold rdRest
  generalize h1 : numP rest = x
  obtain ⟨a, n⟩ := x
  simp only []
  split
  · exact .inr rfl
  rename_i hn
  generalize h2 : numP (rest.drop (n + 1)) = y
  obtain ⟨b, m⟩ := y
  simp only []
  split
  · exact .inr rfl
  rename_i hm
  refine .inl ⟨a, b, ?_, by omega, ?_, by omega, ?_, rfl⟩
  all_goals obtain ⟨x, r1, rfl, e1, e2, e3⟩ := numP_is h1 (by omega)
  all_goals obtain ⟨y, r2, rfl, e4, e5, e6⟩ := numP_is h2 (by omega)
  · have hlt : n < rest.length := by omega
    have h32 : rest[n] = 32 := by
      have : rest.getD n 0 = 32 := Classical.byContradiction fun h => hn (.inr (.inr h))
      simpa [List.getD, hlt] using this
    have hr2 : r2 = [] := by
      have hl := congrArg List.length e4
      rw [List.length_drop, List.length_append] at hl
      exact List.length_eq_zero_iff.1 (by omega)
    have ht : rest.take n = decDigits x := by rw [e1, e2, List.take_left]
    calc rest = rest.take n ++ rest.drop n := (List.take_append_drop n rest).symm
      _ = decDigits x ++ (32 :: rest.drop (n + 1)) := by rw [ht, List.drop_eq_getElem_cons hlt, h32]
      _ = _ := by rw [e4, hr2, List.append_nil, itoa_nat, itoa_nat]
  · omega
  · omega
theorem take_pre {p s t : List UInt8} (h : s = p ++ t) : p = s.take p.length ∧ s.drop p.length = t := by subst h; simp
theorem pre_nm {s t : List UInt8} {r q : Nat} (hs : s = nm r ++ 32 :: t) (hq : nm q ++ [32] = s.take (nm q ++ [32]).length) : nm q = nm r := by
  have h2 : s = nm q ++ 32 :: s.drop (nm q ++ [32]).length := by
    conv => lhs; rw [← List.take_append_drop (nm q ++ [32]).length s, ← hq]
    simp
  rw [hs] at h2
  have h3 := congrArg (fun l => split l [32]) h2
  simp only [split_cons (nm_no32 _)] at h3
  exact (List.cons.inj h3).1.symm
theorem rdGo_is {s : List UInt8} {r : Nat} {a b : Int} (h : Is s r a b) : ∀ k q, 1 ≤ q → q ≤ r → q + k = 18 → rdGo s k q = ((r, a, b), 0)
  | 0, q, _, hq, hk => by have := h.r2; omega
  | k + 1, q, h1, hq, hk => by
    have hs : s = nm r ++ 32 :: (itoa a ++ 32 :: itoa b) := h.eq
    rw [rdGo]
    by_cases he : q = r
    · subst he
      obtain ⟨e1, e2⟩ := take_pre (p := nm q ++ [32]) (s := s) (t := itoa a ++ 32 :: itoa b) (by rw [hs]; simp)
      rw [if_pos e1, e2]
      exact rdRest_is h.a0 h.a1 h.b0 h.b1
    · rw [if_neg (fun e => he (nm_inj (by have := h.r2; omega) (by have := h.r2; omega) (pre_nm hs e)))]
      exact rdGo_is h k (q + 1) (by omega) (by omega) (by omega)
theorem rdGo_cases (s : List UInt8) : ∀ k q, 1 ≤ q → q + k = 18 → (∃ r a b, Is s r a b ∧ rdGo s k q = ((r, a, b), 0)) ∨ rdGo s k q = rdErr
  | 0, q, _, _ => .inr rfl
  | k + 1, q, h1, hk => by
    rw [rdGo]
    split
    · rename_i e
      rcases rdRest_cases q (s.drop (nm q ++ [32]).length) with ⟨a, b, h2, h3, h4, h5, h6, h7⟩ | h
      · refine .inl ⟨q, a, b, ⟨h1, by omega, h3, h4, h5, h6, ?_⟩, h7⟩
        conv => lhs; rw [← List.take_append_drop (nm q ++ [32]).length s, ← e, h2]
        simp [txt]
      · exact .inr h
    · exact rdGo_cases s k (q + 1) (by omega) (by omega)
theorem read_eq (s : List UInt8) : readR s = readP s := by
  rcases rdGo_cases s 17 1 (by omega) (by omega) with ⟨r, a, b, h, e⟩ | e
  · rw [readP_is h]; exact e
  · rcases readP_cases s with ⟨r, a, b, h, e'⟩ | e'
    · have := rdGo_is h 17 1 (by omega) h.r1 (by omega)
      rw [this] at e; cases e
    · rw [e']; exact e
end Go.Proofs.T
end

section
set_option linter.unusedVariables false
set_option linter.unusedSimpArgs false
namespace Go.Proofs
open Go.Shelf
def Tryz.layItoa_ren : Go.Shelf.Ren := ⟨fun | 171 => 36 | 243 => 61 | 246 => 79 | 283 => 104 | 284 => 105 | 285 => 106 | 286 => 107 | 129 => 103 | 317 => 121 | 318 => 122 | 319 => 123 | 320 => 124 | 337 => 134 | 338 => 135 | n => n, fun | 3 => 3 | 9 => 9 | 2 => 2 | 4 => 4 | 171 => 153 | 0 => 0 | 53 => 26 | 37 => 134 | 5 => 5 | 173 => 155 | 212 => 178 | 51 => 38 | 20 => 20 | 213 => 179 | 46 => 129 | 232 => 194 | 233 => 195 | n => n, fun | 17 => 2 | 18 => 6 | 19 => 7 | n => n⟩
theorem Tryz.layItoa : Go.Proofs.LaysM.n171 Tryz.prog Tryz.layItoa_ren := {
  mixed := by kernel_rfl
  f129 := Tryz.func103.trans (congrArg some (by kernel_rfl))
  f171 := Tryz.func36.trans (congrArg some (by kernel_rfl))
  f243 := Tryz.func61.trans (congrArg some (by kernel_rfl))
  f246 := Tryz.func79.trans (congrArg some (by kernel_rfl))
  f283 := Tryz.func104.trans (congrArg some (by kernel_rfl))
  f284 := Tryz.func105.trans (congrArg some (by kernel_rfl))
  f285 := Tryz.func106.trans (congrArg some (by kernel_rfl))
  f286 := Tryz.func107.trans (congrArg some (by kernel_rfl))
  f317 := Tryz.func121.trans (congrArg some (by kernel_rfl))
  f318 := Tryz.func122.trans (congrArg some (by kernel_rfl))
  f319 := Tryz.func123.trans (congrArg some (by kernel_rfl))
  f320 := Tryz.func124.trans (congrArg some (by kernel_rfl))
  f337 := Tryz.func134.trans (congrArg some (by kernel_rfl))
  f338 := Tryz.func135.trans (congrArg some (by kernel_rfl))
  t0 := Tryz.underlying0
  a0 := Tryz.isAgg0
  z0 := Tryz.sizeOf0
  v0 := Tryz.zeroValue0
  t2 := Tryz.underlying2
  a2 := Tryz.isAgg2
  z2 := Tryz.sizeOf2
  v2 := Tryz.zeroValue2
  t3 := Tryz.underlying3
  a3 := Tryz.isAgg3
  z3 := Tryz.sizeOf3
  v3 := Tryz.zeroValue3
  t4 := Tryz.underlying4
  a4 := Tryz.isAgg4
  z4 := Tryz.sizeOf4
  v4 := Tryz.zeroValue4
  t5 := Tryz.underlying5
  a5 := Tryz.isAgg5
  z5 := Tryz.sizeOf5
  v5 := Tryz.zeroValue5
  t9 := Tryz.underlying9
  a9 := Tryz.isAgg9
  z9 := Tryz.sizeOf9
  v9 := Tryz.zeroValue9
  t20 := Tryz.underlying20
  a20 := Tryz.isAgg20
  z20 := Tryz.sizeOf20
  v20 := Tryz.zeroValue20
  t37 := Tryz.underlying134
  a37 := Tryz.isAgg134
  z37 := Tryz.sizeOf134
  v37 := Tryz.zeroValue134
  t46 := Tryz.underlying129
  a46 := Tryz.isAgg129
  z46 := Tryz.sizeOf129
  v46 := Tryz.zeroValue129
  t51 := Tryz.underlying38
  a51 := Tryz.isAgg38
  z51 := Tryz.sizeOf38
  v51 := Tryz.zeroValue38
  t53 := Tryz.underlying26
  a53 := Tryz.isAgg26
  z53 := Tryz.sizeOf26
  v53 := Tryz.zeroValue26
  t171 := Tryz.underlying153
  a171 := Tryz.isAgg153
  z171 := Tryz.sizeOf153
  v171 := Tryz.zeroValue153
  t173 := Tryz.underlying155
  a173 := Tryz.isAgg155
  z173 := Tryz.sizeOf155
  v173 := Tryz.zeroValue155
  t212 := Tryz.underlying178
  a212 := Tryz.isAgg178
  z212 := Tryz.sizeOf178
  v212 := Tryz.zeroValue178
  t213 := Tryz.underlying179
  a213 := Tryz.isAgg179
  z213 := Tryz.sizeOf179
  t232 := Tryz.underlying194
  a232 := Tryz.isAgg194
  z232 := Tryz.sizeOf194
  v232 := Tryz.zeroValue194
  t233 := Tryz.underlying195
  a233 := Tryz.isAgg195
  z233 := Tryz.sizeOf195
  v233 := Tryz.zeroValue195
  g17 := by kernel_rfl
  g18 := by kernel_rfl
  g19 := by kernel_rfl
  i0 := by kernel_rfl
  i2 := by kernel_rfl
  i3 := by kernel_rfl
  i4 := by kernel_rfl
  i5 := by kernel_rfl
  i9 := by kernel_rfl
  i20 := by kernel_rfl
  i37 := by kernel_rfl
  i46 := by kernel_rfl
  i51 := by kernel_rfl
  i53 := by kernel_rfl
  i171 := by kernel_rfl
  i173 := by kernel_rfl
  i212 := by kernel_rfl
  i232 := by kernel_rfl
  i233 := by kernel_rfl
  m17 := by kernel_rfl
  m18 := by kernel_rfl
  m19 := by kernel_rfl }
def Tryz.layAtoi_ren : Go.Shelf.Ren := ⟨fun | 172 => 39 | 244 => 63 | 245 => 64 | 247 => 83 | 279 => 84 | 280 => 85 | 281 => 86 | 282 => 87 | 287 => 112 | 316 => 113 | 171 => 36 | 205 => 114 | 321 => 130 | 322 => 131 | 243 => 61 | 246 => 79 | 283 => 104 | 284 => 105 | 285 => 106 | 286 => 107 | 129 => 103 | 317 => 121 | 318 => 122 | 319 => 123 | 320 => 124 | 337 => 134 | 338 => 135 | n => n, fun | 9 => 9 | 3 => 3 | 75 => 87 | 76 => 88 | 4 => 4 | 5 => 5 | 167 => 133 | 37 => 134 | 0 => 0 | 85 => 135 | 2 => 2 | 168 => 137 | 53 => 26 | 175 => 161 | 46 => 129 | 210 => 165 | 127 => 182 | 145 => 185 | 143 => 183 | 21 => 21 | 171 => 153 | 173 => 155 | 212 => 178 | 51 => 38 | 20 => 20 | 213 => 179 | 232 => 194 | 233 => 195 | 80 => 196 | n => n, fun | 15 => 0 | 16 => 1 | 17 => 2 | 18 => 6 | 19 => 7 | n => n⟩
theorem Tryz.layAtoi : Go.Proofs.LaysC.n172 Tryz.prog Tryz.layAtoi_ren := {
  mixed := by kernel_rfl
  f129 := Tryz.func103.trans (congrArg some (by kernel_rfl))
  f171 := Tryz.func36.trans (congrArg some (by kernel_rfl))
  f172 := Tryz.func39.trans (congrArg some (by kernel_rfl))
  f205 := Tryz.func114.trans (congrArg some (by kernel_rfl))
  f243 := Tryz.func61.trans (congrArg some (by kernel_rfl))
  f244 := Tryz.func63.trans (congrArg some (by kernel_rfl))
  f245 := Tryz.func64.trans (congrArg some (by kernel_rfl))
  f246 := Tryz.func79.trans (congrArg some (by kernel_rfl))
  f247 := Tryz.func83.trans (congrArg some (by kernel_rfl))
  f279 := Tryz.func84.trans (congrArg some (by kernel_rfl))
  f280 := Tryz.func85.trans (congrArg some (by kernel_rfl))
  f281 := Tryz.func86.trans (congrArg some (by kernel_rfl))
  f282 := Tryz.func87.trans (congrArg some (by kernel_rfl))
  f283 := Tryz.func104.trans (congrArg some (by kernel_rfl))
  f284 := Tryz.func105.trans (congrArg some (by kernel_rfl))
  f285 := Tryz.func106.trans (congrArg some (by kernel_rfl))
  f286 := Tryz.func107.trans (congrArg some (by kernel_rfl))
  f287 := Tryz.func112.trans (congrArg some (by kernel_rfl))
  f316 := Tryz.func113.trans (congrArg some (by kernel_rfl))
  f317 := Tryz.func121.trans (congrArg some (by kernel_rfl))
  f318 := Tryz.func122.trans (congrArg some (by kernel_rfl))
  f319 := Tryz.func123.trans (congrArg some (by kernel_rfl))
  f320 := Tryz.func124.trans (congrArg some (by kernel_rfl))
  f321 := Tryz.func130.trans (congrArg some (by kernel_rfl))
  f322 := Tryz.func131.trans (congrArg some (by kernel_rfl))
  f337 := Tryz.func134.trans (congrArg some (by kernel_rfl))
  f338 := Tryz.func135.trans (congrArg some (by kernel_rfl))
  t0 := Tryz.underlying0
  a0 := Tryz.isAgg0
  z0 := Tryz.sizeOf0
  v0 := Tryz.zeroValue0
  t2 := Tryz.underlying2
  a2 := Tryz.isAgg2
  z2 := Tryz.sizeOf2
  v2 := Tryz.zeroValue2
  t3 := Tryz.underlying3
  a3 := Tryz.isAgg3
  z3 := Tryz.sizeOf3
  v3 := Tryz.zeroValue3
  t4 := Tryz.underlying4
  a4 := Tryz.isAgg4
  z4 := Tryz.sizeOf4
  v4 := Tryz.zeroValue4
  t5 := Tryz.underlying5
  a5 := Tryz.isAgg5
  z5 := Tryz.sizeOf5
  v5 := Tryz.zeroValue5
  t9 := Tryz.underlying9
  a9 := Tryz.isAgg9
  z9 := Tryz.sizeOf9
  v9 := Tryz.zeroValue9
  t20 := Tryz.underlying20
  a20 := Tryz.isAgg20
  z20 := Tryz.sizeOf20
  v20 := Tryz.zeroValue20
  t21 := Tryz.underlying21
  a21 := Tryz.isAgg21
  z21 := Tryz.sizeOf21
  v21 := Tryz.zeroValue21
  t37 := Tryz.underlying134
  a37 := Tryz.isAgg134
  z37 := Tryz.sizeOf134
  v37 := Tryz.zeroValue134
  t46 := Tryz.underlying129
  a46 := Tryz.isAgg129
  z46 := Tryz.sizeOf129
  v46 := Tryz.zeroValue129
  t51 := Tryz.underlying38
  a51 := Tryz.isAgg38
  z51 := Tryz.sizeOf38
  v51 := Tryz.zeroValue38
  t53 := Tryz.underlying26
  a53 := Tryz.isAgg26
  z53 := Tryz.sizeOf26
  v53 := Tryz.zeroValue26
  t75 := Tryz.underlying87
  a75 := Tryz.isAgg87
  z75 := Tryz.sizeOf87
  v75 := Tryz.zeroValue87
  t76 := Tryz.underlying88
  a76 := Tryz.isAgg88
  z76 := Tryz.sizeOf88
  v76 := Tryz.zeroValue88
  t85 := Tryz.underlying135
  a85 := Tryz.isAgg135
  z85 := Tryz.sizeOf135
  v85 := Tryz.zeroValue135
  t127 := Tryz.underlying182
  a127 := Tryz.isAgg182
  z127 := Tryz.sizeOf182
  v127 := Tryz.zeroValue182
  t143 := Tryz.underlying183
  a143 := Tryz.isAgg183
  z143 := Tryz.sizeOf183
  v143 := Tryz.zeroValue183
  t145 := Tryz.underlying185
  a145 := Tryz.isAgg185
  z145 := Tryz.sizeOf185
  v145 := Tryz.zeroValue185
  t167 := Tryz.underlying133
  a167 := Tryz.isAgg133
  z167 := Tryz.sizeOf133
  v167 := Tryz.zeroValue133
  t168 := Tryz.underlying137
  a168 := Tryz.isAgg137
  z168 := Tryz.sizeOf137
  v168 := Tryz.zeroValue137
  t171 := Tryz.underlying153
  a171 := Tryz.isAgg153
  z171 := Tryz.sizeOf153
  v171 := Tryz.zeroValue153
  t173 := Tryz.underlying155
  a173 := Tryz.isAgg155
  z173 := Tryz.sizeOf155
  v173 := Tryz.zeroValue155
  t175 := Tryz.underlying161
  a175 := Tryz.isAgg161
  z175 := Tryz.sizeOf161
  v175 := Tryz.zeroValue161
  t210 := Tryz.underlying165
  a210 := Tryz.isAgg165
  z210 := Tryz.sizeOf165
  v210 := Tryz.zeroValue165
  t212 := Tryz.underlying178
  a212 := Tryz.isAgg178
  z212 := Tryz.sizeOf178
  v212 := Tryz.zeroValue178
  t213 := Tryz.underlying179
  a213 := Tryz.isAgg179
  z213 := Tryz.sizeOf179
  t232 := Tryz.underlying194
  a232 := Tryz.isAgg194
  z232 := Tryz.sizeOf194
  v232 := Tryz.zeroValue194
  t233 := Tryz.underlying195
  a233 := Tryz.isAgg195
  z233 := Tryz.sizeOf195
  v233 := Tryz.zeroValue195
  g15 := by kernel_rfl
  g16 := by kernel_rfl
  g17 := by kernel_rfl
  g18 := by kernel_rfl
  g19 := by kernel_rfl
  t80 := Tryz.underlying196
  a80 := Tryz.isAgg196
  z80 := Tryz.sizeOf196
  v80 := Tryz.zeroValue196
  i0 := by kernel_rfl
  i2 := by kernel_rfl
  i3 := by kernel_rfl
  i4 := by kernel_rfl
  i5 := by kernel_rfl
  i9 := by kernel_rfl
  i20 := by kernel_rfl
  i21 := by kernel_rfl
  i37 := by kernel_rfl
  i46 := by kernel_rfl
  i51 := by kernel_rfl
  i53 := by kernel_rfl
  i75 := by kernel_rfl
  i76 := by kernel_rfl
  i80 := by kernel_rfl
  i85 := by kernel_rfl
  i127 := by kernel_rfl
  i143 := by kernel_rfl
  i145 := by kernel_rfl
  i167 := by kernel_rfl
  i168 := by kernel_rfl
  i171 := by kernel_rfl
  i173 := by kernel_rfl
  i175 := by kernel_rfl
  i210 := by kernel_rfl
  i212 := by kernel_rfl
  i232 := by kernel_rfl
  i233 := by kernel_rfl
  m15 := by kernel_rfl
  m16 := by kernel_rfl
  m17 := by kernel_rfl
  m18 := by kernel_rfl
  m19 := by kernel_rfl
  c0 := by kernel_rfl
  c2 := by kernel_rfl
  c3 := by kernel_rfl
  c4 := by kernel_rfl
  c5 := by kernel_rfl
  c9 := by kernel_rfl
  c20 := by kernel_rfl
  c21 := by kernel_rfl
  c37 := by kernel_rfl
  c46 := by kernel_rfl
  c51 := by kernel_rfl
  c53 := by kernel_rfl
  c75 := by kernel_rfl
  c76 := by kernel_rfl
  c80 := by kernel_rfl
  c85 := by kernel_rfl
  c127 := by kernel_rfl
  c143 := by kernel_rfl
  c145 := by kernel_rfl
  c167 := by kernel_rfl
  c168 := by kernel_rfl
  c171 := by kernel_rfl
  c173 := by kernel_rfl
  c175 := by kernel_rfl
  c210 := by kernel_rfl
  c212 := by kernel_rfl
  c213 := by kernel_rfl
  c232 := by kernel_rfl
  c233 := by kernel_rfl }
def Tryz.laySplit_ren : Go.Shelf.Ren := ⟨fun | 146 => 38 | 221 => 62 | 268 => 80 | 138 => 81 | 143 => 82 | 195 => 108 | 197 => 109 | 218 => 110 | 219 => 111 | 260 => 125 | 217 => 126 | 225 => 127 | 224 => 128 | 267 => 129 | 266 => 136 | 314 => 137 | n => n, fun | 9 => 9 | 31 => 47 | 3 => 3 | 4 => 4 | 0 => 0 | 105 => 158 | 21 => 21 | 5 => 5 | 46 => 129 | 119 => 188 | 139 => 191 | 138 => 190 | 146 => 192 | 51 => 38 | n => n, fun | 1 => 3 | 3 => 4 | 4 => 5 | n => n⟩
theorem Tryz.laySplit : Go.Proofs.Lays.n146 Tryz.prog Tryz.laySplit_ren := {
  mixed := by kernel_rfl
  f138 := Tryz.func81.trans (congrArg some (by kernel_rfl))
  f143 := Tryz.func82.trans (congrArg some (by kernel_rfl))
  f146 := Tryz.func38.trans (congrArg some (by kernel_rfl))
  f195 := Tryz.func108.trans (congrArg some (by kernel_rfl))
  f197 := Tryz.func109.trans (congrArg some (by kernel_rfl))
  f217 := Tryz.func126.trans (congrArg some (by kernel_rfl))
  f218 := Tryz.func110.trans (congrArg some (by kernel_rfl))
  f219 := Tryz.func111.trans (congrArg some (by kernel_rfl))
  f221 := Tryz.func62.trans (congrArg some (by kernel_rfl))
  f224 := Tryz.func128.trans (congrArg some (by kernel_rfl))
  f225 := Tryz.func127.trans (congrArg some (by kernel_rfl))
  f260 := Tryz.func125.trans (congrArg some (by kernel_rfl))
  f266 := Tryz.func136.trans (congrArg some (by kernel_rfl))
  f267 := Tryz.func129.trans (congrArg some (by kernel_rfl))
  f268 := Tryz.func80.trans (congrArg some (by kernel_rfl))
  f314 := Tryz.func137.trans (congrArg some (by kernel_rfl))
  t0 := Tryz.underlying0
  a0 := Tryz.isAgg0
  z0 := Tryz.sizeOf0
  v0 := Tryz.zeroValue0
  t3 := Tryz.underlying3
  a3 := Tryz.isAgg3
  z3 := Tryz.sizeOf3
  v3 := Tryz.zeroValue3
  t4 := Tryz.underlying4
  a4 := Tryz.isAgg4
  z4 := Tryz.sizeOf4
  v4 := Tryz.zeroValue4
  t5 := Tryz.underlying5
  a5 := Tryz.isAgg5
  z5 := Tryz.sizeOf5
  v5 := Tryz.zeroValue5
  t9 := Tryz.underlying9
  a9 := Tryz.isAgg9
  z9 := Tryz.sizeOf9
  v9 := Tryz.zeroValue9
  t21 := Tryz.underlying21
  a21 := Tryz.isAgg21
  z21 := Tryz.sizeOf21
  v21 := Tryz.zeroValue21
  t31 := Tryz.underlying47
  a31 := Tryz.isAgg47
  z31 := Tryz.sizeOf47
  v31 := Tryz.zeroValue47
  t46 := Tryz.underlying129
  a46 := Tryz.isAgg129
  z46 := Tryz.sizeOf129
  v46 := Tryz.zeroValue129
  t51 := Tryz.underlying38
  a51 := Tryz.isAgg38
  z51 := Tryz.sizeOf38
  v51 := Tryz.zeroValue38
  t105 := Tryz.underlying158
  a105 := Tryz.isAgg158
  z105 := Tryz.sizeOf158
  v105 := Tryz.zeroValue158
  t119 := Tryz.underlying188
  a119 := Tryz.isAgg188
  z119 := Tryz.sizeOf188
  t138 := Tryz.underlying190
  a138 := Tryz.isAgg190
  z138 := Tryz.sizeOf190
  v138 := Tryz.zeroValue190
  t139 := Tryz.underlying191
  a139 := Tryz.isAgg191
  z139 := Tryz.sizeOf191
  v139 := Tryz.zeroValue191
  t146 := Tryz.underlying192
  a146 := Tryz.isAgg192
  z146 := Tryz.sizeOf192
  v146 := Tryz.zeroValue192
  g1 := by kernel_rfl
  g3 := by kernel_rfl
  g4 := by kernel_rfl }
end Go.Proofs
end

section
set_option linter.unusedVariables false
set_option linter.unusedSimpArgs false
namespace Go.Proofs.T
open Go Go.AM Go.Proofs Go.Lib
set_option linter.unusedSimpArgs false
set_option linter.unusedVariables false
set_option maxRecDepth 4000
variable {Γ : List (Nat × List AVal)}
structure GT (Γ : List (Nat × List AVal)) : Prop where
  pow : AM.look Γ 2 = some (Lib.pow10Tab.map fun z => .lit (.int .u64 z))
  errS : ∃ te pe, AM.look Γ 0 = some [.lit (.iface te pe)]
  errR : ∃ te pe, AM.look Γ 1 = some [.lit (.iface te pe)]
  maxL : ∃ m, AM.look Γ 3 = some [.lit (.int .i64 m)]
theorem itoa_c (hG : GT Γ) (n : Int) (h0 : -9223372036854775808 ≤ n) (h1 : n ≤ 9223372036854775807) : Pure Tryz.prog Γ 36 [.lit (.int .i64 n)] (.lit (.string (ByteArray.mk (itoa n).toArray))) :=
  Pure_Itoa (g := 2) Tryz.layItoa (by kernel_rfl) hG.pow n h0 h1
theorem atoi_c (hG : GT Γ) (l : List UInt8) (hl : l.length ≤ 281474976710656) : Pure Tryz.prog Γ 39 [.lit (.string (ByteArray.mk l.toArray))] (.tup [.lit (.int .i64 (atoiV l)), .junk]) := by
  obtain ⟨te, pe, h1⟩ := hG.errS
  obtain ⟨te', pe', h2⟩ := hG.errR
  exact Pure_Atoi Tryz.layAtoi h1 h2 l hl
theorem split_c (hG : GT Γ) (l : List UInt8) (hl : l.length < 4294967281) : Pure Tryz.prog Γ 38 [.lit (.string (ByteArray.mk l.toArray)), .lit (.string (ByteArray.mk [(32 : UInt8)].toArray))] (strs (split l [32])) := by
  obtain ⟨m, h1⟩ := hG.maxL
  exact Pure_Split Tryz.laySplit (by kernel_rfl) h1 l [32] hl (by simp)
theorem name_c (r : Nat) (hr : r < 256) : Pure Tryz.prog Γ 17 [.lit (.int .u8 (r : Int))] (.lit (.string (ByteArray.mk (nm r).toArray))) := by
  by_cases h : r < 18
  · have hc : r = 0 ∨ r = 1 ∨ r = 2 ∨ r = 3 ∨ r = 4 ∨ r = 5 ∨ r = 6 ∨ r = 7 ∨ r = 8 ∨ r = 9 ∨ r = 10 ∨ r = 11 ∨ r = 12 ∨ r = 13 ∨ r = 14 ∨ r = 15 ∨ r = 16 ∨ r = 17 := by omega
    rcases hc with rfl | rfl | rfl | rfl | rfl | rfl | rfl | rfl | rfl | rfl | rfl | rfl | rfl | rfl | rfl | rfl | rfl | rfl
    all_goals exact Pure_ev (k' := 1) 20 rfl rfl (by kernel_rfl)
  · rw [nm_big (by omega)]
    refine Pure_at Tryz.func17 rfl 10 rfl (Nat.le_of_ble_eq_true rfl) rfl fun k => ?_
    (repeat' (first | (refine C_seq rfl ?_) | (refine C_block rfl ?_) | (refine C_skip rfl ?_; (try simp -dsimp -implicitDefEqProofs only [go_sem, eq_self, ↓reduceIte])) | (refine C_exit rfl ?_; (try simp -dsimp -implicitDefEqProofs only [go_sem, eq_self, ↓reduceIte])) | (refine C_cond rfl _ rfl (fun ht => ?_) (fun ht => ?_) <;> (try (simp only [nf] at ht)) <;> (try (exfalso; omega))) | ((first | (refine S_reg0 rfl [0,2,3,6] rfl rfl (fun K hK => ?_)) | (refine S_drw0 rfl [0,2,3,6] rfl (by kernel_rfl) rfl (fun K hK => ?_))); simp -dsimp -implicitDefEqProofs only [go_sem, eq_self, ↓reduceIte]; (repeat' (first | (refine And.intro ?_ ?_) | (refine gs_both (fun hb => ?_) (fun hb => ?_) <;> (have hg := hb; (try simp only [nfb] at hg); simp -dsimp -implicitDefEqProofs only [go_sem, hb, hg, eq_self, ↓reduceIte]; clear hb; (try simp only [nfe] at hg))))); any_goals ((first | (refine hK _ _ _ _ (fun hx => ?_)) | (refine hK _ _ _ _ (drawA (fun i => i - k)) (fun hx => ?_)) | (refine hK _ _ _ _ drawB (fun hx => ?_))); clear hx hK; simp -dsimp -implicitDefEqProofs only [go_sem, eq_self, ↓reduceIte]; (try simp (disch := omega) only [wrap_i64, wrap_u64, wrap_u32, wrap_u8]))) | omega))
    · refine C_ret rfl ⟨_, rfl, VLe.of_eq ?_⟩
      rfl
theorem names_c : Pure Tryz.prog Γ 11 [] (strs nmL) := by
  refine Pure_at Tryz.func11 rfl 2 rfl (Nat.le_of_ble_eq_true rfl) rfl fun k => ?_
  (repeat' (first | (refine C_seq rfl ?_) | (refine C_block rfl ?_) | (refine C_skip rfl ?_; (try simp -dsimp -implicitDefEqProofs only [go_sem, eq_self, ↓reduceIte])) | (refine C_exit rfl ?_; (try simp -dsimp -implicitDefEqProofs only [go_sem, eq_self, ↓reduceIte])) | (refine C_cond rfl _ rfl (fun ht => ?_) (fun ht => ?_) <;> (try (simp only [nf] at ht)) <;> (try (exfalso; omega))) | ((first | (refine S_reg0 rfl [0] rfl rfl (fun K hK => ?_)) | (refine S_drw0 rfl [0] rfl (by kernel_rfl) rfl (fun K hK => ?_))); simp -dsimp -implicitDefEqProofs only [go_sem, eq_self, ↓reduceIte]; (repeat' (first | (refine And.intro ?_ ?_) | (refine gs_both (fun hb => ?_) (fun hb => ?_) <;> (have hg := hb; (try simp only [nfb] at hg); simp -dsimp -implicitDefEqProofs only [go_sem, hb, hg, eq_self, ↓reduceIte]; clear hb; (try simp only [nfe] at hg))))); any_goals ((first | (refine hK _ _ _ _ (fun hx => ?_)) | (refine hK _ _ _ _ (drawA (fun i => i - k)) (fun hx => ?_)) | (refine hK _ _ _ _ drawB (fun hx => ?_))); clear hx hK; simp -dsimp -implicitDefEqProofs only [go_sem, eq_self, ↓reduceIte]; (try simp (disch := omega) only [wrap_i64, wrap_u64, wrap_u32, wrap_u8]))) | omega))
  refine M_racc rfl (id := k) (s := 1) (l := nmL.map fun x => [.lit (.string (ByteArray.mk x.toArray))]) 0 rfl (fun _ => by rw [AM.look, if_pos rfl]; rfl) ?_
  exact ⟨_, rfl, V_strs _⟩
def dInv (n : Nat) (x : Nat × List UInt8) : Prop := (x.2 = [] ∧ x.1 = n) ∨ (x.2 ≠ [] ∧ ((x.1 = 0 ∧ x.2 = decDigits n) ∨ (0 < x.1 ∧ decDigits x.1 ++ x.2 = decDigits n)))
theorem dInv_next {n : Nat} {x : Nat × List UInt8} (h : dInv n x) (hc : x.2 = [] ∨ 0 < x.1) : dInv n (x.1 / 10, UInt8.ofNat (48 + x.1 % 10) :: x.2) := by
  refine .inr ⟨by simp, ?_⟩
  obtain ⟨m, o⟩ := x
  simp only at *
  by_cases h10 : m < 10
  · refine .inl ⟨by omega, ?_⟩
    have e : m % 10 = m := by omega
    rcases h with ⟨rfl, rfl⟩ | ⟨h1, ⟨h2, _⟩ | ⟨h2, h3⟩⟩
    · rw [e, dec_small h10]
    · rcases hc with hc | hc
      · exact absurd hc h1
      · omega
    · rw [e, ← h3, dec_small h10]; rfl
  · refine .inr ⟨by omega, ?_⟩
    rcases h with ⟨rfl, rfl⟩ | ⟨h1, ⟨h2, _⟩ | ⟨h2, h3⟩⟩
    · rw [dec_big h10]
    · omega
    · rw [← h3, dec_big h10, List.append_assoc]; rfl
theorem dInv_end {n : Nat} {x : Nat × List UInt8} (h : dInv n x) (hc : x.2 ≠ []) (hc' : x.1 = 0) : x.2 = decDigits n := by
  rcases h with ⟨h, _⟩ | ⟨_, ⟨_, h⟩ | ⟨h, _⟩⟩
  · exact absurd h hc
  · exact h
  · omega
theorem dInv_len {n : Nat} {x : Nat × List UInt8} (h : dInv n x) : x.2.length ≤ (decDigits n).length := by
  rcases h with ⟨h, _⟩ | ⟨_, ⟨_, h⟩ | ⟨_, h⟩⟩
  · rw [h]; simp
  · rw [h]; exact Nat.le_refl _
  · rw [← h, List.length_append]; omega
theorem wrap_i32 {n : Int} (h1 : -2147483648 ≤ n) (h2 : n ≤ 2147483647) : IntKind.i32.wrap n = n := by
  simp [IntKind.wrap, IntKind.bits, IntKind.signed]; omega
theorem decimal_c (n : Nat) (hn : n ≤ 9223372036854775807) : Pure Tryz.prog Γ 37 [.lit (.int .i64 (n : Int))] (.lit (.string (ByteArray.mk (decDigits n).toArray))) := by
  have hlen := dec_len 18 n (by omega)
  refine Pure_at Tryz.func37 rfl 20 rfl (Nat.le_of_ble_eq_true rfl) rfl fun k => ?_
  (repeat' (first | (refine C_seq rfl ?_) | (refine C_block rfl ?_) | (refine C_skip rfl ?_; (try simp -dsimp -implicitDefEqProofs only [go_sem, eq_self, ↓reduceIte])) | (refine C_exit rfl ?_; (try simp -dsimp -implicitDefEqProofs only [go_sem, eq_self, ↓reduceIte])) | (refine C_cond rfl _ rfl (fun ht => ?_) (fun ht => ?_) <;> (try (simp only [nf] at ht)) <;> (try (exfalso; omega))) | ((first | (refine S_reg0 rfl [0,2,3,9] rfl rfl (fun K hK => ?_)) | (refine S_drw0 rfl [0,2,3,9] rfl (by kernel_rfl) rfl (fun K hK => ?_))); simp -dsimp -implicitDefEqProofs only [go_sem, eq_self, ↓reduceIte]; (repeat' (first | (refine And.intro ?_ ?_) | (refine gs_both (fun hb => ?_) (fun hb => ?_) <;> (have hg := hb; (try simp only [nfb] at hg); simp -dsimp -implicitDefEqProofs only [go_sem, hb, hg, eq_self, ↓reduceIte]; clear hb; (try simp only [nfe] at hg))))); any_goals ((first | (refine hK _ _ _ _ (fun hx => ?_)) | (refine hK _ _ _ _ (drawA (fun i => i - k)) (fun hx => ?_)) | (refine hK _ _ _ _ drawB (fun hx => ?_))); clear hx hK; simp -dsimp -implicitDefEqProofs only [go_sem, eq_self, ↓reduceIte]; (try simp (disch := omega) only [wrap_i64, wrap_u64, wrap_u32, wrap_u8]))) | omega))
  refine M_forO (X := Nat × List UInt8) rfl [0,2,3,9] k (fun x => [(0, .lit (.int .i64 (x.1 : Int))), (3, .lit (.string (ByteArray.mk x.2.toArray)))]) (fun x => []) (fun x => dInv n x ∧ x.1 ≤ n) (fun x => 2 * x.1 + (if x.2 = [] then 1 else 0)) (n, []) ?_ ⟨.inl ⟨rfl, rfl⟩, Nat.le_refl _⟩ ?_
  · simp -dsimp -implicitDefEqProofs only [go_sem, eq_self, ↓reduceIte]
    exact wkA
  rintro ⟨m, o⟩ ⟨hi, hmn⟩
  have hil : o.length ≤ (decDigits n).length := dInv_len hi
  have hm' : m ≤ n := hmn
  simp -dsimp -implicitDefEqProofs only [go_sem, eq_self, ↓reduceIte]
  have tm : (m : Int).tmod 10 = ((m % 10 : Nat) : Int) := by rw [Int.tmod_eq_emod_of_nonneg (by omega)]; omega
  have td : (m : Int).tdiv 10 = ((m / 10 : Nat) : Int) := by rw [Int.tdiv_eq_ediv_of_nonneg (by omega)]; omega
  have e48 : Utf8.encode (IntKind.i32.wrap (IntKind.i64.wrap (48 + ((m % 10 : Nat) : Int)))) = ByteArray.mk [UInt8.ofNat (48 + m % 10)].toArray := by
    rw [wrap_i64 (by omega) (by omega), wrap_i32 (by omega) (by omega), utf8_dig (by omega) (by omega)]
    have : (48 + ((m % 10 : Nat) : Int)).toNat = 48 + m % 10 := by omega
    rw [this]
  (repeat' (first | (refine C_seq rfl ?_) | (refine C_block rfl ?_) | (refine C_skip rfl ?_; (try simp -dsimp -implicitDefEqProofs only [go_sem, tm, td, e48, eq_self, ↓reduceIte])) | (refine C_exit rfl ?_; (try simp -dsimp -implicitDefEqProofs only [go_sem, tm, td, e48, eq_self, ↓reduceIte])) | (refine C_cond rfl _ rfl (fun ht => ?_) (fun ht => ?_) <;> (try (simp only [nf] at ht)) <;> (try (exfalso; omega))) | ((first | (refine S_reg0 rfl [0,2,3,9] rfl rfl (fun K hK => ?_)) | (refine S_drw0 rfl [0,2,3,9] rfl (by kernel_rfl) rfl (fun K hK => ?_))); simp -dsimp -implicitDefEqProofs only [go_sem, tm, td, e48, eq_self, ↓reduceIte]; (repeat' (first | (refine And.intro ?_ ?_) | (refine gs_both (fun hb => ?_) (fun hb => ?_) <;> (have hg := hb; (try simp only [nfb] at hg); simp -dsimp -implicitDefEqProofs only [go_sem, tm, td, e48, hb, hg, eq_self, ↓reduceIte]; clear hb; (try simp only [nfe] at hg))))); any_goals ((first | (refine hK _ _ _ _ (fun hx => ?_)) | (refine hK _ _ _ _ (drawOk_names (fun i => i - k) (by simp only [List.map_cons, List.map_nil, shG, tm, td, e48, ↓reduceIte, Nat.add_sub_cancel_left, Nat.sub_self]; rfl) (by decide +kernel) (by simp -dsimp -implicitDefEqProofs only [go_sem, tm, td, e48, eq_self, ↓reduceIte])) (fun hx => ?_)) | (refine hK _ _ _ _ (drawOk_of (by kernel_rfl) (by simp -dsimp -implicitDefEqProofs only [go_sem, tm, td, e48, eq_self, ↓reduceIte])) (fun hx => ?_))); clear hx hK; simp -dsimp -implicitDefEqProofs only [go_sem, tm, td, e48, eq_self, ↓reduceIte]; (try simp (disch := omega) only [wrap_i64, wrap_u64, wrap_u32, wrap_u8]))) | omega))
  · refine ⟨(m / 10, UInt8.ofNat (48 + m % 10) :: o), ⟨dInv_next hi (.inr (by omega)), by show m / 10 ≤ n; omega⟩, by simp only [reduceCtorEq, if_false]; omega, ?_⟩
    exact Mv.wk (wk_low (by omega) (by simp -dsimp -implicitDefEqProofs only [go_sem, tm, td, e48, List.map_append, List.map_cons, List.map_nil, eq_self, ↓reduceIte]) (by simp -dsimp -implicitDefEqProofs only [go_sem, tm, td, e48, List.map_append, List.map_cons, List.map_nil, eq_self, ↓reduceIte]) (by simp -dsimp -implicitDefEqProofs only [go_sem, tm, td, e48, List.map_append, List.map_cons, List.map_nil, eq_self, ↓reduceIte]) (by simp -dsimp -implicitDefEqProofs only [go_sem, tm, td, e48, List.map_append, List.map_cons, List.map_nil, eq_self, ↓reduceIte]))
  · refine C_ret rfl ⟨_, rfl, VLe.of_eq ?_⟩
    rw [show o = decDigits n from dInv_end hi hg (by show m = 0; omega)]
  · subst hg
    refine ⟨(m / 10, UInt8.ofNat (48 + m % 10) :: []), ⟨dInv_next hi (.inl rfl), by show m / 10 ≤ n; omega⟩, by simp only [reduceCtorEq, if_false, if_true]; omega, ?_⟩
    exact Mv.wk (wk_low (by omega) (by simp -dsimp -implicitDefEqProofs only [go_sem, tm, td, e48, List.map_append, List.map_cons, List.map_nil, eq_self, ↓reduceIte]) (by simp -dsimp -implicitDefEqProofs only [go_sem, tm, td, e48, List.map_append, List.map_cons, List.map_nil, eq_self, ↓reduceIte]) (by simp -dsimp -implicitDefEqProofs only [go_sem, tm, td, e48, List.map_append, List.map_cons, List.map_nil, eq_self, ↓reduceIte]) (by simp -dsimp -implicitDefEqProofs only [go_sem, tm, td, e48, List.map_append, List.map_cons, List.map_nil, eq_self, ↓reduceIte]))
theorem dig_dec (c : UInt8) : dig c = (decide (48 ≤ (c.toNat : Int)) && decide ((c.toNat : Int) ≤ 57)) := by
  rw [Bool.eq_iff_iff, dig_iff]; simp; omega
theorem drop_at {s : List UInt8} {i : Nat} (h : i < s.length) : s.drop i = s.getD i 0 :: s.drop (i + 1) := by
  rw [List.drop_eq_getElem_cons h]; simp [List.getD, h]
theorem numGo_next {s : List UInt8} {n i : Nat} (h : i < s.length) (h1 : 48 ≤ (s.getD i 0).toNat) (h2 : (s.getD i 0).toNat ≤ 57) (h3 : ¬ (9223372036854775807 - ((s.getD i 0).toNat - 48)) / 10 < n) :
    numGo n i (s.drop i) = numGo (10 * n + ((s.getD i 0).toNat - 48)) (i + 1) (s.drop (i + 1)) := by
  rw [drop_at h, numGo, if_pos (dig_iff.2 ⟨h1, h2⟩), if_neg h3]
theorem numGo_over {s : List UInt8} {n i : Nat} (h : i < s.length) (h1 : 48 ≤ (s.getD i 0).toNat) (h2 : (s.getD i 0).toNat ≤ 57) (h3 : (9223372036854775807 - ((s.getD i 0).toNat - 48)) / 10 < n) :
    numGo n i (s.drop i) = (none, i) := by
  rw [drop_at h, numGo, if_pos (dig_iff.2 ⟨h1, h2⟩), if_pos h3]
theorem numGo_stop {s : List UInt8} {n i : Nat} (h : i < s.length) (h1 : ¬ (48 ≤ (s.getD i 0).toNat ∧ (s.getD i 0).toNat ≤ 57)) : numGo n i (s.drop i) = (some n, i) := by
  rw [drop_at h, numGo, if_neg (fun e => h1 (dig_iff.1 e))]
theorem numGo_out {s : List UInt8} {n i : Nat} (h : s.length ≤ i) : numGo n i (s.drop i) = (some n, i) := by
  rw [List.drop_eq_nil_of_le h, numGo]
theorem head_getD {s : List UInt8} : (0 < s.length ∧ (s.getD 0 0).toNat = 48) ↔ s.head? = some 48 := by
  cases s with
  | nil => simp
  | cons c r =>
    simp only [List.length_cons, Nat.zero_lt_succ, true_and, List.getD_cons_zero, List.head?_cons, Option.some.injEq]
    exact ⟨fun h => UInt8.toNat_inj.1 (by rw [h]; rfl), fun h => by rw [h]; rfl⟩
theorem number_c (s : List UInt8) (hs : s.length ≤ 4294967296) : Pure Tryz.prog Γ 40 [.lit (.string (ByteArray.mk s.toArray))] (.tup [.lit (.int .i64 (numP s).1), .lit (.int .i64 ((numP s).2 : Int))]) := by
  refine Pure_at Tryz.func40 rfl 54 rfl (Nat.le_of_ble_eq_true rfl) rfl fun k => ?_
  refine C_seq rfl ?_; (refine S_reg0 rfl [0,2,3,4,5,6,22,32,50] rfl rfl (fun K hK => ?_)); simp -dsimp -implicitDefEqProofs only [go_sem, eq_self, ↓reduceIte]; (refine hK _ _ _ _ (fun hx => ?_)); clear hx hK; simp -dsimp -implicitDefEqProofs only [go_sem, eq_self, ↓reduceIte]; clear K
  refine C_seq rfl ?_; (refine S_reg0 rfl [0,2,3,4,5,6,22,32,50] rfl rfl (fun K hK => ?_)); simp -dsimp -implicitDefEqProofs only [go_sem, eq_self, ↓reduceIte]; (refine hK _ _ _ _ (fun hx => ?_)); clear hx hK; simp -dsimp -implicitDefEqProofs only [go_sem, eq_self, ↓reduceIte]; clear K
  refine M_midO (X := Nat × Nat) rfl [0,2,3,4,5,6,22,32,50] k (fun x => [(4, .lit (.int .i64 (x.1 : Int))), (5, .lit (.int .i64 (x.2 : Int)))]) (fun x => []) (fun x => numGo 0 0 s = (some x.1, x.2) ∧ x.2 ≤ s.length) ?_ ?_
  · (repeat' (first | (refine C_seq rfl ?_) | (refine C_block rfl ?_) | (refine C_skip rfl ?_; (try simp -dsimp -implicitDefEqProofs only [go_sem, eq_self, ↓reduceIte])) | (refine C_exit rfl ?_; (try simp -dsimp -implicitDefEqProofs only [go_sem, eq_self, ↓reduceIte])) | (refine C_cond rfl _ rfl (fun ht => ?_) (fun ht => ?_) <;> (try (simp only [nf] at ht)) <;> (try (exfalso; omega))) | ((first | (refine S_reg0 rfl [0,2,3,4,5,6,22,32,50] rfl rfl (fun K hK => ?_)) | (refine S_drw0 rfl [0,2,3,4,5,6,22,32,50] rfl (by kernel_rfl) rfl (fun K hK => ?_))); simp -dsimp -implicitDefEqProofs only [go_sem, eq_self, ↓reduceIte]; (repeat' (first | (refine And.intro ?_ ?_) | (refine gs_both (fun hb => ?_) (fun hb => ?_) <;> (have hg := hb; (try simp only [nfb] at hg); simp -dsimp -implicitDefEqProofs only [go_sem, hb, hg, eq_self, ↓reduceIte]; clear hb; (try simp only [nfe] at hg))))); any_goals ((first | (refine hK _ _ _ _ (fun hx => ?_)) | (refine hK _ _ _ _ (drawA (fun i => i - k)) (fun hx => ?_)) | (refine hK _ _ _ _ drawB (fun hx => ?_))); clear hx hK; simp -dsimp -implicitDefEqProofs only [go_sem, eq_self, ↓reduceIte]; (try simp (disch := omega) only [wrap_i64, wrap_u64, wrap_u32, wrap_u8]))) | omega))
    refine M_forO (X := Nat × Nat) rfl [0,2,3,4,5,6,22,32,50] k (fun x => [(4, .lit (.int .i64 (x.1 : Int))), (5, .lit (.int .i64 (x.2 : Int)))]) (fun x => []) (fun x => numGo x.1 x.2 (s.drop x.2) = numGo 0 0 s ∧ x.2 ≤ s.length ∧ x.1 ≤ 9223372036854775807) (fun x => s.length - x.2) (0, 0) ?_ ⟨rfl, Nat.zero_le _, Nat.zero_le _⟩ ?_
    · simp -dsimp -implicitDefEqProofs only [go_sem, eq_self, ↓reduceIte]
      exact wkA
    rintro ⟨n, i⟩ ⟨hi, hil, hn⟩
    have hil' : i ≤ s.length := hil
    have hn' : n ≤ 9223372036854775807 := hn
    have hi' : numGo n i (s.drop i) = numGo 0 0 s := hi
    clear hi hil hn
    have hc0 := (s.getD i 0).toNat_lt
    obtain ⟨d, hd⟩ : ∃ d, d = (s.getD i 0).toNat := ⟨_, rfl⟩
    rw [← hd] at hc0
    have td : ∀ x : Int, 0 ≤ x → x.tdiv 10 = x / 10 := fun x hx => Int.tdiv_eq_ediv_of_nonneg hx
    simp -dsimp -implicitDefEqProofs only [go_sem, eq_self, ↓reduceIte]
    have hw : (48 : Int) ≤ d → (d : Int) ≤ 57 → IntKind.i64.wrap ((9223372036854775807 - ((d : Int) - 48)).tdiv 10) = (9223372036854775807 - ((d : Int) - 48)) / 10 := fun h1 h2 => by
      rw [td _ (by omega), wrap_i64 (by omega) (by omega)]
    (repeat' (first | (refine C_seq rfl ?_) | (refine C_block rfl ?_) | (refine C_skip rfl ?_; (try simp -dsimp -implicitDefEqProofs only [go_sem, ← hd, eq_self, ↓reduceIte])) | (refine C_exit rfl ?_; (try simp -dsimp -implicitDefEqProofs only [go_sem, ← hd, eq_self, ↓reduceIte])) | (refine C_cond rfl _ rfl (fun ht => ?_) (fun ht => ?_) <;> (try (simp only [nf] at ht)) <;> (try (exfalso; omega))) | ((first | (refine S_reg0 rfl [0,2,3,4,5,6,22,32,50] rfl rfl (fun K hK => ?_)) | (refine S_drw0 rfl [0,2,3,4,5,6,22,32,50] rfl (by kernel_rfl) rfl (fun K hK => ?_))); simp -dsimp -implicitDefEqProofs only [go_sem, ← hd, eq_self, ↓reduceIte]; (repeat' (first | (refine And.intro ?_ ?_) | (refine gs_both (fun hb => ?_) (fun hb => ?_) <;> (have hg := hb; (try simp only [nfb] at hg); simp -dsimp -implicitDefEqProofs only [go_sem, ← hd, hb, hg, eq_self, ↓reduceIte]; clear hb; (try simp only [nfe] at hg))))); any_goals ((first | (refine hK _ _ _ _ (fun hx => ?_)) | (refine hK _ _ _ _ (drawOk_names (fun i => i - k) (by simp only [List.map_cons, List.map_nil, shG, ← hd, ↓reduceIte, Nat.add_sub_cancel_left, Nat.sub_self]; rfl) (by decide +kernel) (by simp -dsimp -implicitDefEqProofs only [go_sem, ← hd, eq_self, ↓reduceIte])) (fun hx => ?_)) | (refine hK _ _ _ _ (drawOk_of (by kernel_rfl) (by simp -dsimp -implicitDefEqProofs only [go_sem, ← hd, eq_self, ↓reduceIte])) (fun hx => ?_))); clear hx hK; simp -dsimp -implicitDefEqProofs only [go_sem, ← hd, eq_self, ↓reduceIte]; (try simp (disch := omega) only [wrap_i64, wrap_u64, wrap_u32, wrap_u8]))) | omega))
    · rw [hw (by omega) (by omega)] at ht
      have hN : numP s = (-1, i) := by
        have := numGo_over (s := s) (n := n) (i := i) (by omega) (by omega) (by omega) (by omega)
        unfold numP; rw [← hi', this]; rfl
      refine C_ret rfl ⟨_, rfl, VLe.of_eq ?_⟩
      rw [hN]
    · rw [hw (by omega) (by omega)] at ht
      refine ⟨(10 * n + (d - 48), i + 1), ⟨?_, by show i + 1 ≤ s.length; omega, by show 10 * n + (d - 48) ≤ 9223372036854775807; omega⟩, by show s.length - (i + 1) < _; omega, ?_⟩
      · have := numGo_next (s := s) (n := n) (i := i) (by omega) (by omega) (by omega) (by omega)
        rw [← hi', this, ← hd]
      · have e1 : ((10 * n + (d - 48) : Nat) : Int) = 10 * (n : Int) + ((d : Int) - 48) := by omega
        have e2 : ((i + 1 : Nat) : Int) = (i : Int) + 1 := by omega
        simp only []
        rw [e1, e2]
        exact Mv.wk (wk_low (by omega) (by simp -dsimp -implicitDefEqProofs only [go_sem, ← hd, List.map_append, List.map_cons, List.map_nil, eq_self, ↓reduceIte]) (by simp -dsimp -implicitDefEqProofs only [go_sem, ← hd, List.map_append, List.map_cons, List.map_nil, eq_self, ↓reduceIte]) (by simp -dsimp -implicitDefEqProofs only [go_sem, ← hd, List.map_append, List.map_cons, List.map_nil, eq_self, ↓reduceIte]) (by simp -dsimp -implicitDefEqProofs only [go_sem, ← hd, List.map_append, List.map_cons, List.map_nil, eq_self, ↓reduceIte]))
    · refine ⟨(n, i), ⟨by rw [← hi']; exact numGo_stop (by omega) (by omega), hil'⟩, ?_⟩
      exact Mv.wk (wk_low (by omega) (by simp -dsimp -implicitDefEqProofs only [go_sem, ← hd, List.map_append, List.map_cons, List.map_nil, eq_self, ↓reduceIte]) (by simp -dsimp -implicitDefEqProofs only [go_sem, ← hd, List.map_append, List.map_cons, List.map_nil, eq_self, ↓reduceIte]) (by simp -dsimp -implicitDefEqProofs only [go_sem, ← hd, List.map_append, List.map_cons, List.map_nil, eq_self, ↓reduceIte]) (by simp -dsimp -implicitDefEqProofs only [go_sem, ← hd, List.map_append, List.map_cons, List.map_nil, eq_self, ↓reduceIte]))
    · refine ⟨(n, i), ⟨by rw [← hi']; exact numGo_stop (by omega) (by omega), hil'⟩, ?_⟩
      exact Mv.wk (wk_low (by omega) (by simp -dsimp -implicitDefEqProofs only [go_sem, ← hd, List.map_append, List.map_cons, List.map_nil, eq_self, ↓reduceIte]) (by simp -dsimp -implicitDefEqProofs only [go_sem, ← hd, List.map_append, List.map_cons, List.map_nil, eq_self, ↓reduceIte]) (by simp -dsimp -implicitDefEqProofs only [go_sem, ← hd, List.map_append, List.map_cons, List.map_nil, eq_self, ↓reduceIte]) (by simp -dsimp -implicitDefEqProofs only [go_sem, ← hd, List.map_append, List.map_cons, List.map_nil, eq_self, ↓reduceIte]))
    · refine ⟨(n, i), ⟨by rw [← hi']; exact numGo_out (by omega), hil'⟩, ?_⟩
      exact Mv.wk (wk_low (by omega) (by simp -dsimp -implicitDefEqProofs only [go_sem, ← hd, List.map_append, List.map_cons, List.map_nil, eq_self, ↓reduceIte]) (by simp -dsimp -implicitDefEqProofs only [go_sem, ← hd, List.map_append, List.map_cons, List.map_nil, eq_self, ↓reduceIte]) (by simp -dsimp -implicitDefEqProofs only [go_sem, ← hd, List.map_append, List.map_cons, List.map_nil, eq_self, ↓reduceIte]) (by simp -dsimp -implicitDefEqProofs only [go_sem, ← hd, List.map_append, List.map_cons, List.map_nil, eq_self, ↓reduceIte]))
  rintro ⟨n, i⟩ ⟨h1, h2⟩
  have h1' : numGo 0 0 s = (some n, i) := h1
  have h2' : i ≤ s.length := h2
  clear h1 h2
  have hN : numP s = if i = 0 ∨ (s.head? = some 48 ∧ 1 < i) then (-1, i) else ((n : Int), i) := by unfold numP; rw [h1']; rfl
  have hh := head_getD (s := s)
  simp -dsimp -implicitDefEqProofs only [go_sem, eq_self, ↓reduceIte]
  (repeat' (first | (refine C_seq rfl ?_) | (refine C_block rfl ?_) | (refine C_skip rfl ?_; (try simp -dsimp -implicitDefEqProofs only [go_sem, eq_self, ↓reduceIte])) | (refine C_exit rfl ?_; (try simp -dsimp -implicitDefEqProofs only [go_sem, eq_self, ↓reduceIte])) | (refine C_cond rfl _ rfl (fun ht => ?_) (fun ht => ?_) <;> (try (simp only [nf] at ht)) <;> (try (exfalso; omega))) | ((first | (refine S_reg0 rfl [0,2,3,4,5,6,22,32,50] rfl rfl (fun K hK => ?_)) | (refine S_drw0 rfl [0,2,3,4,5,6,22,32,50] rfl (by kernel_rfl) rfl (fun K hK => ?_))); simp -dsimp -implicitDefEqProofs only [go_sem, eq_self, ↓reduceIte]; (repeat' (first | (refine And.intro ?_ ?_) | (refine gs_both (fun hb => ?_) (fun hb => ?_) <;> (have hg := hb; (try simp only [nfb] at hg); simp -dsimp -implicitDefEqProofs only [go_sem, hb, hg, eq_self, ↓reduceIte]; clear hb; (try simp only [nfe] at hg))))); any_goals ((first | (refine hK _ _ _ _ (fun hx => ?_)) | (refine hK _ _ _ _ (drawA (fun i => i - k)) (fun hx => ?_)) | (refine hK _ _ _ _ drawB (fun hx => ?_))); clear hx hK; simp -dsimp -implicitDefEqProofs only [go_sem, eq_self, ↓reduceIte]; (try simp (disch := omega) only [wrap_i64, wrap_u64, wrap_u32, wrap_u8]))) | omega))
  all_goals (refine C_ret rfl ⟨_, rfl, VLe.of_eq ?_⟩)
  all_goals (rw [hN]; first | (rw [if_pos (.inl (by omega))]; done) | (rw [if_pos (.inr ⟨hh.1 ⟨by omega, by omega⟩, by omega⟩)]; done) | (rw [if_neg (by rintro (h | ⟨h, h'⟩); (· omega); (· have := hh.2 h; omega))]; done))
end Go.Proofs.T
end

section
set_option linter.unusedVariables false
set_option linter.unusedSimpArgs false
namespace Go.Proofs.T
open Go Go.AM Go.Proofs Go.Lib
set_option linter.unusedSimpArgs false
set_option linter.unusedVariables false
set_option maxRecDepth 4000
variable {Γ : List (Nat × List AVal)}
def flt (r : Nat) (a b : Int) : List AVal := [.lit (.int .u8 (r : Int)), .lit (.int .i64 a), .lit (.int .i64 b)]
attribute [go_sem] flt
def textT (r : Nat) (a b : Int) : List UInt8 := if textOk r a b = true then txt r a b else []
def textE (r : Nat) (a b : Int) : Int := if textOk r a b = true then 0 else 2
theorem nm_len (r : Nat) : (nm r).length ≤ 7 := by
  by_cases h : r < 18
  · have : ((List.range 18).all fun r => decide ((nm r).length ≤ 7)) = true := by decide +kernel
    simpa using List.all_eq_true.1 this r (List.mem_range.2 h)
  · rw [nm_big (by omega)]; simp
theorem textOk_iff {r : Nat} {a b : Int} : textOk r a b = true ↔ nm r ≠ [] ∧ 0 ≤ a ∧ 0 ≤ b := by simp [textOk, and_assoc]
theorem text_c (hG : GT Γ) (r : Nat) (a b : Int) (hr : r < 256) (ha : a ≤ 9223372036854775807) (hb : b ≤ 9223372036854775807) : Pure Tryz.prog Γ 13 [.agg (flt r a b)] (.tup [.lit (.string (ByteArray.mk (textT r a b).toArray)), .lit (.int .i64 (textE r a b))]) := by
  have hl := nm_len r
  refine Pure_at Tryz.func13 rfl 31 rfl (Nat.le_of_ble_eq_true rfl) rfl fun k => ?_
  (repeat' (first | (refine C_seq rfl ?_) | (refine C_block rfl ?_) | (refine C_skip rfl ?_; (try simp -dsimp -implicitDefEqProofs only [go_sem, eq_self, ↓reduceIte])) | (refine C_exit rfl ?_; (try simp -dsimp -implicitDefEqProofs only [go_sem, eq_self, ↓reduceIte])) | (refine C_cond rfl _ rfl (fun ht => ?_) (fun ht => ?_) <;> (try (simp only [nf] at ht)) <;> (try (exfalso; omega))) | ((first | (refine S_reg0 rfl [0,1,2,3,17] rfl rfl (fun K hK => ?_)) | (refine S_drw0 rfl [0,1,2,3,17] rfl (by kernel_rfl) rfl (fun K hK => ?_))); simp -dsimp -implicitDefEqProofs only [go_sem, eq_self, ↓reduceIte]; (repeat' (first | (refine And.intro ?_ ?_) | (refine gs_both (fun hb => ?_) (fun hb => ?_) <;> (have hg := hb; (try simp only [nfb] at hg); simp -dsimp -implicitDefEqProofs only [go_sem, hb, hg, eq_self, ↓reduceIte]; clear hb; (try simp only [nfe] at hg))))); any_goals ((first | (refine hK _ _ _ _ (fun hx => ?_)) | (refine hK _ _ _ _ (drawA (fun i => i - k)) (fun hx => ?_)) | (refine hK _ _ _ _ drawB (fun hx => ?_))); clear hx hK; simp -dsimp -implicitDefEqProofs only [go_sem, eq_self, ↓reduceIte]; (try simp (disch := omega) only [wrap_i64, wrap_u64, wrap_u32, wrap_u8]))) | omega))
  refine S_reg rfl [0,1,2,3,17] [.ret (.lit (.string (ByteArray.mk (nm r).toArray)))] rfl (fun K hK => ?_); simp -dsimp -implicitDefEqProofs only [go_sem, eq_self, ↓reduceIte]; (repeat' (first | (refine And.intro ?_ ?_) | (refine gs_both (fun hb => ?_) (fun hb => ?_) <;> (have hg := hb; (try simp only [nfb] at hg); simp -dsimp -implicitDefEqProofs only [go_sem, hb, hg, eq_self, ↓reduceIte]; clear hb; (try simp only [nfe] at hg))))); (any_goals ((refine hK _ _ _ _ (fun hx => ?_)); clear hx hK; simp -dsimp -implicitDefEqProofs only [go_sem, eq_self, ↓reduceIte]; (try simp (disch := omega) only [wrap_i64, wrap_u64, wrap_u32, wrap_u8]))); (all_goals (try omega))
  · exact name_c r hr
  all_goals ((repeat' (first | (refine C_seq rfl ?_) | (refine C_block rfl ?_) | (refine C_skip rfl ?_; (try simp -dsimp -implicitDefEqProofs only [go_sem, eq_self, ↓reduceIte])) | (refine C_exit rfl ?_; (try simp -dsimp -implicitDefEqProofs only [go_sem, eq_self, ↓reduceIte])) | (refine C_cond rfl _ rfl (fun ht => ?_) (fun ht => ?_) <;> (try (simp only [nf] at ht)) <;> (try (exfalso; omega))) | ((first | (refine S_reg0 rfl [0,1,2,3,17] rfl rfl (fun K hK => ?_)) | (refine S_drw0 rfl [0,1,2,3,17] rfl (by kernel_rfl) rfl (fun K hK => ?_))); simp -dsimp -implicitDefEqProofs only [go_sem, eq_self, ↓reduceIte]; (repeat' (first | (refine And.intro ?_ ?_) | (refine gs_both (fun hb => ?_) (fun hb => ?_) <;> (have hg := hb; (try simp only [nfb] at hg); simp -dsimp -implicitDefEqProofs only [go_sem, hb, hg, eq_self, ↓reduceIte]; clear hb; (try simp only [nfe] at hg))))); any_goals ((first | (refine hK _ _ _ _ (fun hx => ?_)) | (refine hK _ _ _ _ (drawA (fun i => i - k)) (fun hx => ?_)) | (refine hK _ _ _ _ drawB (fun hx => ?_))); clear hx hK; simp -dsimp -implicitDefEqProofs only [go_sem, eq_self, ↓reduceIte]; (try simp (disch := omega) only [wrap_i64, wrap_u64, wrap_u32, wrap_u8]))) | omega)))
  · have hk : ¬ textOk r a b = true := by rw [textOk_iff]; omega
    refine C_ret rfl ⟨_, rfl, VLe.of_eq ?_⟩
    rw [textT, textE, if_neg hk, if_neg hk]
  · have hk : textOk r a b = true := by rw [textOk_iff]; exact ⟨by assumption, by omega, by omega⟩
    have l1 := itoa_len a (by omega) (by omega)
    have l2 := itoa_len b (by omega) (by omega)
    refine S_drw rfl [0,1,2,3,17] [.ret (.lit (.string (ByteArray.mk (nm r).toArray))), .ret (.lit (.string (ByteArray.mk (itoa a).toArray))), .ret (.lit (.string (ByteArray.mk (itoa b).toArray)))] (by kernel_rfl) rfl (fun K hK => ?_); simp -dsimp -implicitDefEqProofs only [go_sem, eq_self, ↓reduceIte]; (repeat' (first | (refine And.intro ?_ ?_) | (refine gs_both (fun hb => ?_) (fun hb => ?_) <;> (have hg := hb; (try simp only [nfb] at hg); simp -dsimp -implicitDefEqProofs only [go_sem, hb, hg, eq_self, ↓reduceIte]; clear hb; (try simp only [nfe] at hg))))); (any_goals ((first | (refine hK _ _ _ _ (drawA (fun i => i - k)) (fun hx => ?_)) | (refine hK _ _ _ _ drawB (fun hx => ?_))); clear hx hK; simp -dsimp -implicitDefEqProofs only [go_sem, eq_self, ↓reduceIte]; (try simp (disch := omega) only [wrap_i64, wrap_u64, wrap_u32, wrap_u8]))); (all_goals (try omega))
    · exact name_c r hr
    · exact itoa_c hG a (by omega) (by omega)
    · exact itoa_c hG b (by omega) (by omega)
    · refine C_ret rfl ⟨_, rfl, VLe.of_eq ?_⟩
      rw [textT, textE, if_pos hk, if_pos hk, txt]
      simp
  · have hk : ¬ textOk r a b = true := by rw [textOk_iff]; omega
    refine C_ret rfl ⟨_, rfl, VLe.of_eq ?_⟩
    rw [textT, textE, if_neg hk, if_neg hk]
  · have hk : ¬ textOk r a b = true := by rw [textOk_iff]; simp [hg]
    refine C_ret rfl ⟨_, rfl, VLe.of_eq ?_⟩
    rw [textT, textE, if_neg hk, if_neg hk]
theorem nmL_len : nmL.length = 18 := rfl
theorem nmL_get (r : Nat) : nmL.getD r [] = nm r := rfl
attribute [go_sem] strs
theorem textR_c (r : Nat) (a b : Int) (hr : r < 256) (ha : a ≤ 9223372036854775807) (hb : b ≤ 9223372036854775807) : Pure Tryz.prog Γ 14 [.agg (flt r a b)] (.tup [.lit (.string (ByteArray.mk (textT r a b).toArray)), .lit (.int .i64 (textE r a b))]) := by
  have hl := nm_len r
  have hnn := nm_nil (r := r)
  refine Pure_at Tryz.func14 rfl 37 rfl (Nat.le_of_ble_eq_true rfl) rfl fun k => ?_
  (repeat' (first | (refine C_seq rfl ?_) | (refine C_block rfl ?_) | (refine C_skip rfl ?_; (try simp -dsimp -implicitDefEqProofs only [go_sem, eq_self, ↓reduceIte])) | (refine C_exit rfl ?_; (try simp -dsimp -implicitDefEqProofs only [go_sem, eq_self, ↓reduceIte])) | (refine C_cond rfl _ rfl (fun ht => ?_) (fun ht => ?_) <;> (try (simp only [nf] at ht)) <;> (try (exfalso; omega))) | ((first | (refine S_reg0 rfl [0,1,2,3,21] rfl rfl (fun K hK => ?_)) | (refine S_drw0 rfl [0,1,2,3,21] rfl (by kernel_rfl) rfl (fun K hK => ?_))); simp -dsimp -implicitDefEqProofs only [go_sem, eq_self, ↓reduceIte]; (repeat' (first | (refine And.intro ?_ ?_) | (refine gs_both (fun hb => ?_) (fun hb => ?_) <;> (have hg := hb; (try simp only [nfb] at hg); simp -dsimp -implicitDefEqProofs only [go_sem, hb, hg, eq_self, ↓reduceIte]; clear hb; (try simp only [nfe] at hg))))); any_goals ((first | (refine hK _ _ _ _ (fun hx => ?_)) | (refine hK _ _ _ _ (drawA (fun i => i - k)) (fun hx => ?_)) | (refine hK _ _ _ _ drawB (fun hx => ?_))); clear hx hK; simp -dsimp -implicitDefEqProofs only [go_sem, eq_self, ↓reduceIte]; (try simp (disch := omega) only [wrap_i64, wrap_u64, wrap_u32, wrap_u8]))) | omega))
  · have hk : ¬ textOk r a b = true := by rw [textOk_iff]; omega
    refine C_ret rfl ⟨_, rfl, VLe.of_eq ?_⟩
    rw [textT, textE, if_neg hk, if_neg hk]
  · have hk : textOk r a b = true := by rw [textOk_iff, ne_eq, hnn]; omega
    obtain ⟨x, rfl⟩ := Int.eq_ofNat_of_zero_le (show 0 ≤ a by omega)
    obtain ⟨y, rfl⟩ := Int.eq_ofNat_of_zero_le (show 0 ≤ b by omega)
    have l1 := dec_len 18 x (by omega)
    have l2 := dec_len 18 y (by omega)
    refine S_drw rfl [0,1,2,3,21] [.ret (strs nmL), .ret (.lit (.string (ByteArray.mk (decDigits x).toArray))), .ret (.lit (.string (ByteArray.mk (decDigits y).toArray)))] (by kernel_rfl) rfl (fun K hK => ?_); simp -dsimp -implicitDefEqProofs only [go_sem, nmL_len, nmL_get, eq_self, ↓reduceIte]; (repeat' (first | (refine And.intro ?_ ?_) | (refine gs_both (fun hb => ?_) (fun hb => ?_) <;> (have hg := hb; (try simp only [nfb] at hg); simp -dsimp -implicitDefEqProofs only [go_sem, nmL_len, nmL_get, hb, hg, eq_self, ↓reduceIte]; clear hb; (try simp only [nfe] at hg))))); (any_goals ((first | (refine hK _ _ _ _ (drawOk_names (fun i => i - k) (by simp only [List.map_cons, List.map_nil, shG, nmL_len, nmL_get, ↓reduceIte, Nat.add_sub_cancel_left, Nat.sub_self]; rfl) (by decide +kernel) (by simp -dsimp -implicitDefEqProofs only [go_sem, nmL_len, nmL_get, eq_self, ↓reduceIte])) (fun hx => ?_)) | (refine hK _ _ _ _ (drawOk_of (by kernel_rfl) (by simp -dsimp -implicitDefEqProofs only [go_sem, nmL_len, nmL_get, eq_self, ↓reduceIte])) (fun hx => ?_))); clear hx hK; simp -dsimp -implicitDefEqProofs only [go_sem, nmL_len, nmL_get, eq_self, ↓reduceIte]; (try simp (disch := omega) only [wrap_i64, wrap_u64, wrap_u32, wrap_u8]))); (all_goals (try omega))
    · exact names_c
    · exact decimal_c x (by omega)
    · exact decimal_c y (by omega)
    · refine C_ret rfl ⟨_, rfl, VLe.of_eq ?_⟩
      rw [textT, textE, if_pos hk, if_pos hk, txt]
      simp [itoa_nat]
  all_goals (have hk : ¬ textOk r a b = true := by rw [textOk_iff, ne_eq, hnn]; omega)
  all_goals (refine C_ret rfl ⟨_, rfl, VLe.of_eq ?_⟩)
  all_goals (rw [textT, textE, if_neg hk, if_neg hk])
theorem numGo_le (l : List UInt8) : ∀ (n i : Nat), (numGo n i l).2 ≤ i + l.length := by
  induction l with
  | nil => intro n i; exact Nat.le_refl _
  | cons c l ih =>
    intro n i
    rw [numGo]
    split
    · split
      · show i ≤ _; omega
      · have := ih (10 * n + (c.toNat - 48)) (i + 1); rw [List.length_cons]; omega
    · show i ≤ _; omega
theorem numP_le (s : List UInt8) : (numP s).2 ≤ s.length := by
  have h := numGo_le s 0 0
  unfold numP numEnd
  split
  · rename_i hg; rw [hg] at h; simpa using h
  · rename_i hg; rw [hg] at h; split <;> simpa using h
theorem splitK_len (x : List UInt8) : ∀ (k : Nat) (s : List UInt8), x ∈ splitK [32] 0 k s → x.length ≤ s.length
  | 0, s, h => by simp only [splitK, List.mem_singleton] at h; subst h; exact Nat.le_refl _
  | k + 1, s, h => by
    rw [splitK] at h
    split at h
    · simp only [List.mem_singleton] at h; subst h; exact Nat.le_refl _
    · rcases List.mem_cons.1 h with rfl | h
      · rw [List.length_take]; omega
      · have := splitK_len x k _ h; rw [List.length_drop] at this; omega
theorem split_len {x s : List UInt8} (h : x ∈ split s [32]) : x.length ≤ s.length := splitK_len x _ s h
theorem rd_tup {R R' : RdV} (h : R = R') : VLe (.tup [.agg (flt R.1.1 R.1.2.1 R.1.2.2), .lit (.int .i64 R.2)]) (.tup [.agg (flt R'.1.1 R'.1.2.1 R'.1.2.2), .lit (.int .i64 R'.2)]) := h ▸ VLe.refl _
theorem read_c (hG : GT Γ) (s : List UInt8) (hs : s.length ≤ 200) : Pure Tryz.prog Γ 15 [.lit (.string (ByteArray.mk s.toArray))] (.tup [.agg (flt (readP s).1.1 (readP s).1.2.1 (readP s).1.2.2), .lit (.int .i64 (readP s).2)]) := by
  obtain ⟨ws, hws⟩ : ∃ ws, split s [32] = ws := ⟨_, rfl⟩
  have hlw : ∀ x ∈ ws, x.length ≤ 200 := fun x hx => by rw [← hws] at hx; have := split_len hx; omega
  have hR : readP s = if ws.length = 3 then (if textOk (ruleGo (ws.getD 0 []) 18) (atoiV (ws.getD 1 [])) (atoiV (ws.getD 2 [])) = true ∧ txt (ruleGo (ws.getD 0 []) 18) (atoiV (ws.getD 1 [])) (atoiV (ws.getD 2 [])) = s then ((ruleGo (ws.getD 0 []) 18, atoiV (ws.getD 1 []), atoiV (ws.getD 2 [])), 0) else rdErr) else rdErr := by
    rw [← hws]; rfl
  generalize readP s = R at hR ⊢
  refine Pure_at Tryz.func15 rfl 57 rfl (Nat.le_of_ble_eq_true rfl) rfl fun k => ?_
  (repeat' (first | (refine C_seq rfl ?_) | (refine C_block rfl ?_) | (refine C_skip rfl ?_; (try simp -dsimp -implicitDefEqProofs only [go_sem, eq_self, ↓reduceIte])) | (refine C_exit rfl ?_; (try simp -dsimp -implicitDefEqProofs only [go_sem, eq_self, ↓reduceIte])) | (refine C_cond rfl _ rfl (fun ht => ?_) (fun ht => ?_) <;> (try (simp only [nf] at ht)) <;> (try (exfalso; omega))) | ((first | (refine S_reg0 rfl [0,2,3,4,5,6,7,8,13,15,16,23,54] rfl rfl (fun K hK => ?_)) | (refine S_drw0 rfl [0,2,3,4,5,6,7,8,13,15,16,23,54] rfl (by kernel_rfl) rfl (fun K hK => ?_))); simp -dsimp -implicitDefEqProofs only [go_sem, eq_self, ↓reduceIte]; (repeat' (first | (refine And.intro ?_ ?_) | (refine gs_both (fun hb => ?_) (fun hb => ?_) <;> (have hg := hb; (try simp only [nfb] at hg); simp -dsimp -implicitDefEqProofs only [go_sem, hb, hg, eq_self, ↓reduceIte]; clear hb; (try simp only [nfe] at hg))))); any_goals ((first | (refine hK _ _ _ _ (fun hx => ?_)) | (refine hK _ _ _ _ (drawA (fun i => i - k)) (fun hx => ?_)) | (refine hK _ _ _ _ drawB (fun hx => ?_))); clear hx hK; simp -dsimp -implicitDefEqProofs only [go_sem, eq_self, ↓reduceIte]; (try simp (disch := omega) only [wrap_i64, wrap_u64, wrap_u32, wrap_u8]))) | omega))
  refine S_reg rfl [0,2,3,4,5,6,7,8,13,15,16,23,54] [.ret (strs ws)] rfl (fun K hK => ?_); simp -dsimp -implicitDefEqProofs only [go_sem, eq_self, ↓reduceIte]; (repeat' (first | (refine And.intro ?_ ?_) | (refine gs_both (fun hb => ?_) (fun hb => ?_) <;> (have hg := hb; (try simp only [nfb] at hg); simp -dsimp -implicitDefEqProofs only [go_sem, hb, hg, eq_self, ↓reduceIte]; clear hb; (try simp only [nfe] at hg))))); (any_goals ((refine hK _ _ _ _ (fun hx => ?_)); clear hx hK; simp -dsimp -implicitDefEqProofs only [go_sem, eq_self, ↓reduceIte]; (try simp (disch := omega) only [wrap_i64, wrap_u64, wrap_u32, wrap_u8]))); (all_goals (try omega))
  · rw [← hws]; exact split_c hG s (by omega)
  (repeat' (first | (refine C_seq rfl ?_) | (refine C_block rfl ?_) | (refine C_skip rfl ?_; (try simp -dsimp -implicitDefEqProofs only [go_sem, eq_self, ↓reduceIte])) | (refine C_exit rfl ?_; (try simp -dsimp -implicitDefEqProofs only [go_sem, eq_self, ↓reduceIte])) | (refine C_cond rfl _ rfl (fun ht => ?_) (fun ht => ?_) <;> (try (simp only [nf] at ht)) <;> (try (exfalso; omega))) | ((first | (refine S_reg0 rfl [0,2,3,4,5,6,7,8,13,15,16,23,54] rfl rfl (fun K hK => ?_)) | (refine S_drw0 rfl [0,2,3,4,5,6,7,8,13,15,16,23,54] rfl (by kernel_rfl) rfl (fun K hK => ?_))); simp -dsimp -implicitDefEqProofs only [go_sem, eq_self, ↓reduceIte]; (repeat' (first | (refine And.intro ?_ ?_) | (refine gs_both (fun hb => ?_) (fun hb => ?_) <;> (have hg := hb; (try simp only [nfb] at hg); simp -dsimp -implicitDefEqProofs only [go_sem, hb, hg, eq_self, ↓reduceIte]; clear hb; (try simp only [nfe] at hg))))); any_goals ((first | (refine hK _ _ _ _ (fun hx => ?_)) | (refine hK _ _ _ _ (drawA (fun i => i - k)) (fun hx => ?_)) | (refine hK _ _ _ _ drawB (fun hx => ?_))); clear hx hK; simp -dsimp -implicitDefEqProofs only [go_sem, eq_self, ↓reduceIte]; (try simp (disch := omega) only [wrap_i64, wrap_u64, wrap_u32, wrap_u8]))) | omega))
  · refine C_ret rfl ?_; simp -dsimp -implicitDefEqProofs only [go_sem, eq_self, ↓reduceIte]; refine ⟨_, rfl, ?_⟩
    rw [hR, if_neg (by omega)]
    exact VLe.refl _
  rw [if_pos (by omega)] at hR
  have hlen3 : ws.length = 3 := by omega
  rcases ws with _ | ⟨w0, _ | ⟨w1, _ | ⟨w2, _ | ⟨w3, ws⟩⟩⟩⟩
  · simp at hlen3
  · simp at hlen3
  · simp at hlen3
  · simp only [List.getD_cons_zero, List.getD_cons_succ] at hR
    refine M_forO (X := Nat) rfl [0,2,3,4,5,6,7,8,13,15,16,23,54] (k + 2) (fun i => [(15, .lit (.int .u8 (i : Int)))]) (fun i => [(k + 1, ⟨3, true, [flt (ruleGo w0 i) 0 0]⟩), (k, ⟨3, true, [flt 0 0 0]⟩)]) (fun i => i ≤ 18) (fun i => 18 - i) 0 ?_ (Nat.zero_le _) ?_
    · rw [ruleGo]
      simp -dsimp -implicitDefEqProofs only [go_sem, eq_self, ↓reduceIte]
      exact wkA
    intro i hi
    simp -dsimp -implicitDefEqProofs only [go_sem, eq_self, ↓reduceIte]
    have hl0 : w0.length ≤ 200 := hlw w0 (by simp)
    have hl1 : w1.length ≤ 200 := hlw w1 (by simp)
    have hl2 : w2.length ≤ 200 := hlw w2 (by simp)
    have b1 := atoiV_bounds w1
    have b2 := atoiV_bounds w2
    (repeat' (first | (refine C_seq rfl ?_) | (refine C_block rfl ?_) | (refine C_skip rfl ?_; (try simp -dsimp -implicitDefEqProofs only [go_sem, eq_self, ↓reduceIte])) | (refine C_exit rfl ?_; (try simp -dsimp -implicitDefEqProofs only [go_sem, eq_self, ↓reduceIte])) | (refine C_cond rfl _ rfl (fun ht => ?_) (fun ht => ?_) <;> (try (simp only [nf] at ht)) <;> (try (exfalso; omega))) | ((first | (refine S_reg0 rfl [0,2,3,4,5,6,7,8,13,15,16,23,54] rfl rfl (fun K hK => ?_)) | (refine S_drw0 rfl [0,2,3,4,5,6,7,8,13,15,16,23,54] rfl (by kernel_rfl) rfl (fun K hK => ?_))); simp -dsimp -implicitDefEqProofs only [go_sem, eq_self, ↓reduceIte]; (repeat' (first | (refine And.intro ?_ ?_) | (refine gs_both (fun hb => ?_) (fun hb => ?_) <;> (have hg := hb; (try simp only [nfb] at hg); simp -dsimp -implicitDefEqProofs only [go_sem, hb, hg, eq_self, ↓reduceIte]; clear hb; (try simp only [nfe] at hg))))); any_goals ((first | (refine hK _ _ _ _ (fun hx => ?_)) | (refine hK _ _ _ _ (drawA (fun i => i - k)) (fun hx => ?_)) | (refine hK _ _ _ _ drawB (fun hx => ?_))); clear hx hK; simp -dsimp -implicitDefEqProofs only [go_sem, eq_self, ↓reduceIte]; (try simp (disch := omega) only [wrap_i64, wrap_u64, wrap_u32, wrap_u8]))) | omega))
    · refine S_drw rfl [0,2,3,4,5,6,7,8,13,15,16,23,54] [.ret (.lit (.string (ByteArray.mk (nm i).toArray)))] (by kernel_rfl) rfl (fun K hK => ?_); simp -dsimp -implicitDefEqProofs only [go_sem, eq_self, ↓reduceIte]; (repeat' (first | (refine And.intro ?_ ?_) | (refine gs_both (fun hb => ?_) (fun hb => ?_) <;> (have hg := hb; (try simp only [nfb] at hg); simp -dsimp -implicitDefEqProofs only [go_sem, hb, hg, eq_self, ↓reduceIte]; clear hb; (try simp only [nfe] at hg))))); (any_goals ((first | (refine hK _ _ _ _ (drawA (fun i => i - k)) (fun hx => ?_)) | (refine hK _ _ _ _ drawB (fun hx => ?_))); clear hx hK; simp -dsimp -implicitDefEqProofs only [go_sem, eq_self, ↓reduceIte]; (try simp (disch := omega) only [wrap_i64, wrap_u64, wrap_u32, wrap_u8]))); (all_goals (try omega))
      · exact name_c i (by omega)
      · (repeat' (first | (refine C_seq rfl ?_) | (refine C_block rfl ?_) | (refine C_skip rfl ?_; (try simp -dsimp -implicitDefEqProofs only [go_sem, eq_self, ↓reduceIte])) | (refine C_exit rfl ?_; (try simp -dsimp -implicitDefEqProofs only [go_sem, eq_self, ↓reduceIte])) | (refine C_cond rfl _ rfl (fun ht => ?_) (fun ht => ?_) <;> (try (simp only [nf] at ht)) <;> (try (exfalso; omega))) | ((first | (refine S_reg0 rfl [0,2,3,4,5,6,7,8,13,15,16,23,54] rfl rfl (fun K hK => ?_)) | (refine S_drw0 rfl [0,2,3,4,5,6,7,8,13,15,16,23,54] rfl (by kernel_rfl) rfl (fun K hK => ?_))); simp -dsimp -implicitDefEqProofs only [go_sem, eq_self, ↓reduceIte]; (repeat' (first | (refine And.intro ?_ ?_) | (refine gs_both (fun hb => ?_) (fun hb => ?_) <;> (have hg := hb; (try simp only [nfb] at hg); simp -dsimp -implicitDefEqProofs only [go_sem, hb, hg, eq_self, ↓reduceIte]; clear hb; (try simp only [nfe] at hg))))); any_goals ((first | (refine hK _ _ _ _ (fun hx => ?_)) | (refine hK _ _ _ _ (drawA (fun i => i - k)) (fun hx => ?_)) | (refine hK _ _ _ _ drawB (fun hx => ?_))); clear hx hK; simp -dsimp -implicitDefEqProofs only [go_sem, eq_self, ↓reduceIte]; (try simp (disch := omega) only [wrap_i64, wrap_u64, wrap_u32, wrap_u8]))) | omega))
        · refine ⟨i + 1, by omega, by omega, ?_⟩
          have e2 : ((i + 1 : Nat) : Int) = (i : Int) + 1 := by omega
          rw [ruleGo, if_pos (by assumption), e2]
          exact wkA
        · refine ⟨i + 1, by omega, by omega, ?_⟩
          have e2 : ((i + 1 : Nat) : Int) = (i : Int) + 1 := by omega
          rw [ruleGo, if_neg (by assumption), e2]
          exact wkA
    · have hi18 : i = 18 := by omega
      subst hi18
      obtain ⟨r, hr⟩ : ∃ r, ruleGo w0 18 = r := ⟨_, rfl⟩
      have hr18 := ruleGo_lt w0 18
      rw [hr] at hr18 hR
      obtain ⟨a, ha⟩ : ∃ a, atoiV w1 = a := ⟨_, rfl⟩
      obtain ⟨b, hb⟩ : ∃ b, atoiV w2 = b := ⟨_, rfl⟩
      rw [ha, hb] at hR
      rw [ha] at b1
      rw [hb] at b2
      refine S_reg rfl [0,2,3,4,5,6,7,8,13,15,16,23,54] [.ret (.tup [.lit (.int .i64 a), .junk])] rfl (fun K hK => ?_); simp -dsimp -implicitDefEqProofs only [go_sem, hr, eq_self, ↓reduceIte]; (repeat' (first | (refine And.intro ?_ ?_) | (refine gs_both (fun hb => ?_) (fun hb => ?_) <;> (have hg := hb; (try simp only [nfb] at hg); simp -dsimp -implicitDefEqProofs only [go_sem, hr, hb, hg, eq_self, ↓reduceIte]; clear hb; (try simp only [nfe] at hg))))); (any_goals ((refine hK _ _ _ _ (fun hx => ?_)); clear hx hK; simp -dsimp -implicitDefEqProofs only [go_sem, hr, eq_self, ↓reduceIte]; (try simp (disch := omega) only [wrap_i64, wrap_u64, wrap_u32, wrap_u8]))); (all_goals (try omega))
      · rw [← ha]; exact atoi_c hG w1 (by omega)
      (repeat' (first | (refine C_seq rfl ?_) | (refine C_block rfl ?_) | (refine C_skip rfl ?_; (try simp -dsimp -implicitDefEqProofs only [go_sem, hr, eq_self, ↓reduceIte])) | (refine C_exit rfl ?_; (try simp -dsimp -implicitDefEqProofs only [go_sem, hr, eq_self, ↓reduceIte])) | (refine C_cond rfl _ rfl (fun ht => ?_) (fun ht => ?_) <;> (try (simp only [nf] at ht)) <;> (try (exfalso; omega))) | ((first | (refine S_reg0 rfl [0,2,3,4,5,6,7,8,13,15,16,23,54] rfl rfl (fun K hK => ?_)) | (refine S_drw0 rfl [0,2,3,4,5,6,7,8,13,15,16,23,54] rfl (by kernel_rfl) rfl (fun K hK => ?_))); simp -dsimp -implicitDefEqProofs only [go_sem, hr, eq_self, ↓reduceIte]; (repeat' (first | (refine And.intro ?_ ?_) | (refine gs_both (fun hb => ?_) (fun hb => ?_) <;> (have hg := hb; (try simp only [nfb] at hg); simp -dsimp -implicitDefEqProofs only [go_sem, hr, hb, hg, eq_self, ↓reduceIte]; clear hb; (try simp only [nfe] at hg))))); any_goals ((first | (refine hK _ _ _ _ (fun hx => ?_)) | (refine hK _ _ _ _ (drawOk_names (fun i => i - k) (by simp only [List.map_cons, List.map_nil, shG, hr, ↓reduceIte, Nat.add_sub_cancel_left, Nat.sub_self]; rfl) (by decide +kernel) (by simp -dsimp -implicitDefEqProofs only [go_sem, hr, eq_self, ↓reduceIte])) (fun hx => ?_)) | (refine hK _ _ _ _ (drawOk_of (by kernel_rfl) (by simp -dsimp -implicitDefEqProofs only [go_sem, hr, eq_self, ↓reduceIte])) (fun hx => ?_))); clear hx hK; simp -dsimp -implicitDefEqProofs only [go_sem, hr, eq_self, ↓reduceIte]; (try simp (disch := omega) only [wrap_i64, wrap_u64, wrap_u32, wrap_u8]))) | omega))
      refine S_reg rfl [0,2,3,4,5,6,7,8,13,15,16,23,54] [.ret (.tup [.lit (.int .i64 b), .junk])] rfl (fun K hK => ?_); simp -dsimp -implicitDefEqProofs only [go_sem, hr, eq_self, ↓reduceIte]; (repeat' (first | (refine And.intro ?_ ?_) | (refine gs_both (fun hb => ?_) (fun hb => ?_) <;> (have hg := hb; (try simp only [nfb] at hg); simp -dsimp -implicitDefEqProofs only [go_sem, hr, hb, hg, eq_self, ↓reduceIte]; clear hb; (try simp only [nfe] at hg))))); (any_goals ((refine hK _ _ _ _ (fun hx => ?_)); clear hx hK; simp -dsimp -implicitDefEqProofs only [go_sem, hr, eq_self, ↓reduceIte]; (try simp (disch := omega) only [wrap_i64, wrap_u64, wrap_u32, wrap_u8]))); (all_goals (try omega))
      · rw [← hb]; exact atoi_c hG w2 (by omega)
      (repeat' (first | (refine C_seq rfl ?_) | (refine C_block rfl ?_) | (refine C_skip rfl ?_; (try simp -dsimp -implicitDefEqProofs only [go_sem, hr, eq_self, ↓reduceIte])) | (refine C_exit rfl ?_; (try simp -dsimp -implicitDefEqProofs only [go_sem, hr, eq_self, ↓reduceIte])) | (refine C_cond rfl _ rfl (fun ht => ?_) (fun ht => ?_) <;> (try (simp only [nf] at ht)) <;> (try (exfalso; omega))) | ((first | (refine S_reg0 rfl [0,2,3,4,5,6,7,8,13,15,16,23,54] rfl rfl (fun K hK => ?_)) | (refine S_drw0 rfl [0,2,3,4,5,6,7,8,13,15,16,23,54] rfl (by kernel_rfl) rfl (fun K hK => ?_))); simp -dsimp -implicitDefEqProofs only [go_sem, hr, eq_self, ↓reduceIte]; (repeat' (first | (refine And.intro ?_ ?_) | (refine gs_both (fun hb => ?_) (fun hb => ?_) <;> (have hg := hb; (try simp only [nfb] at hg); simp -dsimp -implicitDefEqProofs only [go_sem, hr, hb, hg, eq_self, ↓reduceIte]; clear hb; (try simp only [nfe] at hg))))); any_goals ((first | (refine hK _ _ _ _ (fun hx => ?_)) | (refine hK _ _ _ _ (drawOk_names (fun i => i - k) (by simp only [List.map_cons, List.map_nil, shG, hr, ↓reduceIte, Nat.add_sub_cancel_left, Nat.sub_self]; rfl) (by decide +kernel) (by simp -dsimp -implicitDefEqProofs only [go_sem, hr, eq_self, ↓reduceIte])) (fun hx => ?_)) | (refine hK _ _ _ _ (drawOk_of (by kernel_rfl) (by simp -dsimp -implicitDefEqProofs only [go_sem, hr, eq_self, ↓reduceIte])) (fun hx => ?_))); clear hx hK; simp -dsimp -implicitDefEqProofs only [go_sem, hr, eq_self, ↓reduceIte]; (try simp (disch := omega) only [wrap_i64, wrap_u64, wrap_u32, wrap_u8]))) | omega))
      refine S_reg rfl [0,2,3,4,5,6,7,8,13,15,16,23,54] [.ret (.tup [.lit (.string (ByteArray.mk (textT r a b).toArray)), .lit (.int .i64 (textE r a b))])] rfl (fun K hK => ?_); simp -dsimp -implicitDefEqProofs only [go_sem, hr, eq_self, ↓reduceIte]; (repeat' (first | (refine And.intro ?_ ?_) | (refine gs_both (fun hb => ?_) (fun hb => ?_) <;> (have hg := hb; (try simp only [nfb] at hg); simp -dsimp -implicitDefEqProofs only [go_sem, hr, hb, hg, eq_self, ↓reduceIte]; clear hb; (try simp only [nfe] at hg))))); (any_goals ((refine hK _ _ _ _ (fun hx => ?_)); clear hx hK; simp -dsimp -implicitDefEqProofs only [go_sem, hr, eq_self, ↓reduceIte]; (try simp (disch := omega) only [wrap_i64, wrap_u64, wrap_u32, wrap_u8]))); (all_goals (try omega))
      · exact text_c hG r a b (by omega) (by omega) (by omega)
      have hT : textOk r a b = true → textT r a b = txt r a b ∧ textE r a b = 0 := fun h => by rw [textT, textE, if_pos h, if_pos h]; exact ⟨rfl, rfl⟩
      have hF : ¬ textOk r a b = true → textE r a b = 2 := fun h => by rw [textE, if_neg h]
      (repeat' (first | (refine C_seq rfl ?_) | (refine C_block rfl ?_) | (refine C_skip rfl ?_; (try simp -dsimp -implicitDefEqProofs only [go_sem, hr, eq_self, ↓reduceIte])) | (refine C_exit rfl ?_; (try simp -dsimp -implicitDefEqProofs only [go_sem, hr, eq_self, ↓reduceIte])) | (refine C_cond rfl _ rfl (fun ht => ?_) (fun ht => ?_) <;> (try (simp only [nf] at ht)) <;> (try (exfalso; omega))) | ((first | (refine S_reg0 rfl [0,2,3,4,5,6,7,8,13,15,16,23,54] rfl rfl (fun K hK => ?_)) | (refine S_drw0 rfl [0,2,3,4,5,6,7,8,13,15,16,23,54] rfl (by kernel_rfl) rfl (fun K hK => ?_))); simp -dsimp -implicitDefEqProofs only [go_sem, hr, eq_self, ↓reduceIte]; (repeat' (first | (refine And.intro ?_ ?_) | (refine gs_both (fun hb => ?_) (fun hb => ?_) <;> (have hg := hb; (try simp only [nfb] at hg); simp -dsimp -implicitDefEqProofs only [go_sem, hr, hb, hg, eq_self, ↓reduceIte]; clear hb; (try simp only [nfe] at hg))))); any_goals ((first | (refine hK _ _ _ _ (fun hx => ?_)) | (refine hK _ _ _ _ (drawOk_names (fun i => i - k) (by simp only [List.map_cons, List.map_nil, shG, hr, ↓reduceIte, Nat.add_sub_cancel_left, Nat.sub_self]; rfl) (by decide +kernel) (by simp -dsimp -implicitDefEqProofs only [go_sem, hr, eq_self, ↓reduceIte])) (fun hx => ?_)) | (refine hK _ _ _ _ (drawOk_of (by kernel_rfl) (by simp -dsimp -implicitDefEqProofs only [go_sem, hr, eq_self, ↓reduceIte])) (fun hx => ?_))); clear hx hK; simp -dsimp -implicitDefEqProofs only [go_sem, hr, eq_self, ↓reduceIte]; (try simp (disch := omega) only [wrap_i64, wrap_u64, wrap_u32, wrap_u8]))) | omega))
      · refine C_ret rfl ?_; simp -dsimp -implicitDefEqProofs only [go_sem, hr, eq_self, ↓reduceIte]; refine ⟨_, rfl, ?_⟩
        rw [hR, if_neg (fun h => ht (by rw [(hT h.1).1]; exact h.2))]
        exact VLe.refl _
      · have hk : textOk r a b = true := by
          by_cases h : textOk r a b = true
          · exact h
          · have := hF h; omega
        refine C_ret rfl ?_; simp -dsimp -implicitDefEqProofs only [go_sem, hr, eq_self, ↓reduceIte]; refine ⟨_, rfl, ?_⟩
        rw [hR, if_pos ⟨hk, by rw [← (hT hk).1]; exact ht⟩]
        exact VLe.refl _
      · refine C_ret rfl ?_; simp -dsimp -implicitDefEqProofs only [go_sem, hr, eq_self, ↓reduceIte]; refine ⟨_, rfl, ?_⟩
        rw [hR, if_neg (fun h => hg (hT h.1).2)]
        exact VLe.refl _
  · simp at hlen3
theorem rdGo_at {s : List UInt8} {q : Nat} (h : q < 18) : rdGo s (18 - q) q = if nm q ++ [32] = s.take (nm q ++ [32]).length then rdRest q (s.drop (nm q ++ [32]).length) else rdGo s (18 - (q + 1)) (q + 1) := by
  have : 18 - q = (18 - (q + 1)) + 1 := by omega
  rw [this, rdGo]
theorem take_ne {p s : List UInt8} (h : s.length < p.length) : ¬ p = s.take p.length := fun e => by
  have := congrArg List.length e
  rw [List.length_take] at this; omega
theorem numP_hi (s : List UInt8) : -1 ≤ (numP s).1 ∧ (numP s).1 ≤ 9223372036854775807 := by
  by_cases h : 0 ≤ (numP s).1
  · obtain ⟨n, rest, h1, _, _, h2⟩ := numP_is (s := s) (a := (numP s).1) (j := (numP s).2) rfl h
    omega
  · refine ⟨?_, by omega⟩
    unfold numP numEnd
    split
    · exact Int.le_refl _
    · split
      · exact Int.le_refl _
      · show -1 ≤ (_ : Int); omega
theorem readR_c (s : List UInt8) (hs : s.length ≤ 200) : Pure Tryz.prog Γ 16 [.lit (.string (ByteArray.mk s.toArray))] (.tup [.agg (flt (readR s).1.1 (readR s).1.2.1 (readR s).1.2.2), .lit (.int .i64 (readR s).2)]) := by
  obtain ⟨R, hR0⟩ : ∃ R, R = readR s := ⟨_, rfl⟩
  rw [← hR0]
  refine Pure_at Tryz.func16 rfl 83 rfl (Nat.le_of_ble_eq_true rfl) rfl fun k => ?_
  (repeat' (first | (refine C_seq rfl ?_) | (refine C_block rfl ?_) | (refine C_skip rfl ?_; (try simp -dsimp -implicitDefEqProofs only [go_sem, eq_self, ↓reduceIte])) | (refine C_exit rfl ?_; (try simp -dsimp -implicitDefEqProofs only [go_sem, eq_self, ↓reduceIte])) | (refine C_cond rfl _ rfl (fun ht => ?_) (fun ht => ?_) <;> (try (simp only [nf] at ht)) <;> (try (exfalso; omega))) | ((first | (refine S_reg0 rfl [0,2,3,4,5,6,7,8,9,10,12,32,55,75] rfl rfl (fun K hK => ?_)) | (refine S_drw0 rfl [0,2,3,4,5,6,7,8,9,10,12,32,55,75] rfl (by kernel_rfl) rfl (fun K hK => ?_))); simp -dsimp -implicitDefEqProofs only [go_sem, eq_self, ↓reduceIte]; (repeat' (first | (refine And.intro ?_ ?_) | (refine gs_both (fun hb => ?_) (fun hb => ?_) <;> (have hg := hb; (try simp only [nfb] at hg); simp -dsimp -implicitDefEqProofs only [go_sem, hb, hg, eq_self, ↓reduceIte]; clear hb; (try simp only [nfe] at hg))))); any_goals ((first | (refine hK _ _ _ _ (fun hx => ?_)) | (refine hK _ _ _ _ (drawA (fun i => i - k)) (fun hx => ?_)) | (refine hK _ _ _ _ drawB (fun hx => ?_))); clear hx hK; simp -dsimp -implicitDefEqProofs only [go_sem, eq_self, ↓reduceIte]; (try simp (disch := omega) only [wrap_i64, wrap_u64, wrap_u32, wrap_u8]))) | omega))
  refine M_forO (X := Nat) rfl [0,2,3,4,5,6,7,8,9,10,12,32,55,75] (k + 1) (fun q => [(4, .lit (.int .i64 (q : Int)))]) (fun q => [(k, ⟨3, true, [flt 0 0 0]⟩)]) (fun q => 1 ≤ q ∧ q ≤ 18 ∧ R = rdGo s (18 - q) q) (fun q => 18 - q) 1 ?_ ⟨Nat.le_refl _, by omega, hR0⟩ ?_
  · simp -dsimp -implicitDefEqProofs only [go_sem, eq_self, ↓reduceIte]
    exact wkA
  rintro q ⟨hq1, hq, hR⟩
  have hl := nm_len q
  obtain ⟨p, hp⟩ : ∃ p, nm q ++ [32] = p := ⟨_, rfl⟩
  have hpl : p.length = (nm q).length + 1 := by rw [← hp]; simp
  simp -dsimp -implicitDefEqProofs only [go_sem, eq_self, ↓reduceIte]
  (repeat' (first | (refine C_seq rfl ?_) | (refine C_block rfl ?_) | (refine C_skip rfl ?_; (try simp -dsimp -implicitDefEqProofs only [go_sem, eq_self, ↓reduceIte])) | (refine C_exit rfl ?_; (try simp -dsimp -implicitDefEqProofs only [go_sem, eq_self, ↓reduceIte])) | (refine C_cond rfl _ rfl (fun ht => ?_) (fun ht => ?_) <;> (try (simp only [nf] at ht)) <;> (try (exfalso; omega))) | ((first | (refine S_reg0 rfl [0,2,3,4,5,6,7,8,9,10,12,32,55,75] rfl rfl (fun K hK => ?_)) | (refine S_drw0 rfl [0,2,3,4,5,6,7,8,9,10,12,32,55,75] rfl (by kernel_rfl) rfl (fun K hK => ?_))); simp -dsimp -implicitDefEqProofs only [go_sem, eq_self, ↓reduceIte]; (repeat' (first | (refine And.intro ?_ ?_) | (refine gs_both (fun hb => ?_) (fun hb => ?_) <;> (have hg := hb; (try simp only [nfb] at hg); simp -dsimp -implicitDefEqProofs only [go_sem, hb, hg, eq_self, ↓reduceIte]; clear hb; (try simp only [nfe] at hg))))); any_goals ((first | (refine hK _ _ _ _ (fun hx => ?_)) | (refine hK _ _ _ _ (drawA (fun i => i - k)) (fun hx => ?_)) | (refine hK _ _ _ _ drawB (fun hx => ?_))); clear hx hK; simp -dsimp -implicitDefEqProofs only [go_sem, eq_self, ↓reduceIte]; (try simp (disch := omega) only [wrap_i64, wrap_u64, wrap_u32, wrap_u8]))) | omega))
  · rw [rdGo_at (by omega), hp] at hR
    refine S_reg rfl [0,2,3,4,5,6,7,8,9,10,12,32,55,75] [.ret (strs nmL)] rfl (fun K hK => ?_); simp -dsimp -implicitDefEqProofs only [go_sem, nmL_len, nmL_get, hp, eq_self, ↓reduceIte]; (repeat' (first | (refine And.intro ?_ ?_) | (refine gs_both (fun hb => ?_) (fun hb => ?_) <;> (have hg := hb; (try simp only [nfb] at hg); simp -dsimp -implicitDefEqProofs only [go_sem, nmL_len, nmL_get, hp, hb, hg, eq_self, ↓reduceIte]; clear hb; (try simp only [nfe] at hg))))); (any_goals ((refine hK _ _ _ _ (fun hx => ?_)); clear hx hK; simp -dsimp -implicitDefEqProofs only [go_sem, nmL_len, nmL_get, hp, eq_self, ↓reduceIte]; (try simp (disch := omega) only [wrap_i64, wrap_u64, wrap_u32, wrap_u8]))); (all_goals (try omega))
    · exact names_c
    have e2 : ((q + 1 : Nat) : Int) = (q : Int) + 1 := by omega
    (repeat' (first | (refine C_seq rfl ?_) | (refine C_block rfl ?_) | (refine C_skip rfl ?_; (try simp -dsimp -implicitDefEqProofs only [go_sem, eq_self, ↓reduceIte])) | (refine C_exit rfl ?_; (try simp -dsimp -implicitDefEqProofs only [go_sem, eq_self, ↓reduceIte])) | (refine C_cond rfl _ rfl (fun ht => ?_) (fun ht => ?_) <;> (try (simp only [nf] at ht)) <;> (try (exfalso; omega))) | ((first | (refine S_reg0 rfl [0,2,3,4,5,6,7,8,9,10,12,32,55,75] rfl rfl (fun K hK => ?_)) | (refine S_drw0 rfl [0,2,3,4,5,6,7,8,9,10,12,32,55,75] rfl (by kernel_rfl) rfl (fun K hK => ?_))); simp -dsimp -implicitDefEqProofs only [go_sem, eq_self, ↓reduceIte]; (repeat' (first | (refine And.intro ?_ ?_) | (refine gs_both (fun hb => ?_) (fun hb => ?_) <;> (have hg := hb; (try simp only [nfb] at hg); simp -dsimp -implicitDefEqProofs only [go_sem, hb, hg, eq_self, ↓reduceIte]; clear hb; (try simp only [nfe] at hg))))); any_goals ((first | (refine hK _ _ _ _ (fun hx => ?_)) | (refine hK _ _ _ _ (drawA (fun i => i - k)) (fun hx => ?_)) | (refine hK _ _ _ _ drawB (fun hx => ?_))); clear hx hK; simp -dsimp -implicitDefEqProofs only [go_sem, eq_self, ↓reduceIte]; (try simp (disch := omega) only [wrap_i64, wrap_u64, wrap_u32, wrap_u8]))) | omega))
    · rw [if_neg (fun e => ht e.symm)] at hR
      refine ⟨q + 1, ⟨by omega, by omega, hR⟩, by omega, ?_⟩
      rw [e2]
      exact wkA
    · rw [if_pos ht.symm] at hR
      obtain ⟨rest, hrest⟩ : ∃ rest, s.drop p.length = rest := ⟨_, rfl⟩
      have hrl : rest.length ≤ 200 := by rw [← hrest, List.length_drop]; omega
      rw [hrest] at hR
      have hnl := numP_le rest
      have hnh := numP_hi rest
      unfold rdRest at hR
      have hc1 := number_c (Γ := Γ) rest (by omega)
      generalize numP rest = x at hR hnl hnh hc1
      obtain ⟨a, n⟩ := x
      simp only [] at hR hnl hnh hc1
      refine S_reg rfl [0,2,3,4,5,6,7,8,9,10,12,32,55,75] [.ret (.tup [.lit (.int .i64 a), .lit (.int .i64 (n : Int))])] rfl (fun K hK => ?_); simp -dsimp -implicitDefEqProofs only [go_sem, hrest, eq_self, ↓reduceIte]; (repeat' (first | (refine And.intro ?_ ?_) | (refine gs_both (fun hb => ?_) (fun hb => ?_) <;> (have hg := hb; (try simp only [nfb] at hg); simp -dsimp -implicitDefEqProofs only [go_sem, hrest, hb, hg, eq_self, ↓reduceIte]; clear hb; (try simp only [nfe] at hg))))); (any_goals ((refine hK _ _ _ _ (fun hx => ?_)); clear hx hK; simp -dsimp -implicitDefEqProofs only [go_sem, hrest, eq_self, ↓reduceIte]; (try simp (disch := omega) only [wrap_i64, wrap_u64, wrap_u32, wrap_u8]))); (all_goals (try omega))
      all_goals (try (exact hc1))
      have h32 : rest.getD n 0 = 32 ↔ ((rest.getD n 0).toNat : Int) = 32 := ⟨fun h => by rw [h]; rfl, fun h => UInt8.toNat_inj.1 (by have : (32 : UInt8).toNat = 32 := rfl; omega)⟩
      (repeat' (first | (refine C_seq rfl ?_) | (refine C_block rfl ?_) | (refine C_skip rfl ?_; (try simp -dsimp -implicitDefEqProofs only [go_sem, eq_self, ↓reduceIte])) | (refine C_exit rfl ?_; (try simp -dsimp -implicitDefEqProofs only [go_sem, eq_self, ↓reduceIte])) | (refine C_cond rfl _ rfl (fun ht => ?_) (fun ht => ?_) <;> (try (simp only [nf] at ht)) <;> (try (exfalso; omega))) | ((first | (refine S_reg0 rfl [0,2,3,4,5,6,7,8,9,10,12,32,55,75] rfl rfl (fun K hK => ?_)) | (refine S_drw0 rfl [0,2,3,4,5,6,7,8,9,10,12,32,55,75] rfl (by kernel_rfl) rfl (fun K hK => ?_))); simp -dsimp -implicitDefEqProofs only [go_sem, eq_self, ↓reduceIte]; (repeat' (first | (refine And.intro ?_ ?_) | (refine gs_both (fun hb => ?_) (fun hb => ?_) <;> (have hg := hb; (try simp only [nfb] at hg); simp -dsimp -implicitDefEqProofs only [go_sem, hb, hg, eq_self, ↓reduceIte]; clear hb; (try simp only [nfe] at hg))))); any_goals ((first | (refine hK _ _ _ _ (fun hx => ?_)) | (refine hK _ _ _ _ (drawA (fun i => i - k)) (fun hx => ?_)) | (refine hK _ _ _ _ drawB (fun hx => ?_))); clear hx hK; simp -dsimp -implicitDefEqProofs only [go_sem, eq_self, ↓reduceIte]; (try simp (disch := omega) only [wrap_i64, wrap_u64, wrap_u32, wrap_u8]))) | omega))
      · rw [if_pos (.inr (.inr (fun e => ht (h32.1 e))))] at hR
        refine C_ret rfl ?_; simp -dsimp -implicitDefEqProofs only [go_sem, eq_self, ↓reduceIte]; refine ⟨_, rfl, ?_⟩
        rw [hR]
        exact VLe.refl _
      · rw [if_neg (by rintro (h | h | h); (· omega); (· omega); (· exact h (h32.2 ht)))] at hR
        obtain ⟨rest2, hrest2⟩ : ∃ rest2, rest.drop (n + 1) = rest2 := ⟨_, rfl⟩
        have hrl2 : rest2.length ≤ 200 := by rw [← hrest2, List.length_drop]; omega
        rw [hrest2] at hR
        have hnl2 := numP_le rest2
        have hnh2 := numP_hi rest2
        have hc2 := number_c (Γ := Γ) rest2 (by omega)
        generalize numP rest2 = x at hR hnl2 hnh2 hc2
        obtain ⟨b, m⟩ := x
        simp only [] at hR hnl2 hnh2 hc2
        have e3 : ((n : Int) + 1).toNat = n + 1 := by omega
        have e4 : IntKind.i64.wrap ((n : Int) + 1) = (n : Int) + 1 := wrap_i64 (by omega) (by omega)
        refine S_reg rfl [0,2,3,4,5,6,7,8,9,10,12,32,55,75] [.ret (.tup [.lit (.int .i64 b), .lit (.int .i64 (m : Int))])] rfl (fun K hK => ?_); simp -dsimp -implicitDefEqProofs only [go_sem, e4, e3, hrest2, eq_self, ↓reduceIte]; (repeat' (first | (refine And.intro ?_ ?_) | (refine gs_both (fun hb => ?_) (fun hb => ?_) <;> (have hg := hb; (try simp only [nfb] at hg); simp -dsimp -implicitDefEqProofs only [go_sem, e4, e3, hrest2, hb, hg, eq_self, ↓reduceIte]; clear hb; (try simp only [nfe] at hg))))); (any_goals ((refine hK _ _ _ _ (fun hx => ?_)); clear hx hK; simp -dsimp -implicitDefEqProofs only [go_sem, e4, e3, hrest2, eq_self, ↓reduceIte]; (try simp (disch := omega) only [wrap_i64, wrap_u64, wrap_u32, wrap_u8]))); (all_goals (try omega))
        all_goals (try (exact hc2))
        (repeat' (first | (refine C_seq rfl ?_) | (refine C_block rfl ?_) | (refine C_skip rfl ?_; (try simp -dsimp -implicitDefEqProofs only [go_sem, eq_self, ↓reduceIte])) | (refine C_exit rfl ?_; (try simp -dsimp -implicitDefEqProofs only [go_sem, eq_self, ↓reduceIte])) | (refine C_cond rfl _ rfl (fun ht => ?_) (fun ht => ?_) <;> (try (simp only [nf] at ht)) <;> (try (exfalso; omega))) | ((first | (refine S_reg0 rfl [0,2,3,4,5,6,7,8,9,10,12,32,55,75] rfl rfl (fun K hK => ?_)) | (refine S_drw0 rfl [0,2,3,4,5,6,7,8,9,10,12,32,55,75] rfl (by kernel_rfl) rfl (fun K hK => ?_))); simp -dsimp -implicitDefEqProofs only [go_sem, eq_self, ↓reduceIte]; (repeat' (first | (refine And.intro ?_ ?_) | (refine gs_both (fun hb => ?_) (fun hb => ?_) <;> (have hg := hb; (try simp only [nfb] at hg); simp -dsimp -implicitDefEqProofs only [go_sem, hb, hg, eq_self, ↓reduceIte]; clear hb; (try simp only [nfe] at hg))))); any_goals ((first | (refine hK _ _ _ _ (fun hx => ?_)) | (refine hK _ _ _ _ (drawA (fun i => i - k)) (fun hx => ?_)) | (refine hK _ _ _ _ drawB (fun hx => ?_))); clear hx hK; simp -dsimp -implicitDefEqProofs only [go_sem, eq_self, ↓reduceIte]; (try simp (disch := omega) only [wrap_i64, wrap_u64, wrap_u32, wrap_u8]))) | omega))
        · rw [if_pos (by omega)] at hR
          refine C_ret rfl ?_; simp -dsimp -implicitDefEqProofs only [go_sem, eq_self, ↓reduceIte]; refine ⟨_, rfl, ?_⟩
          rw [hR]
          exact VLe.refl _
        · rw [if_neg (by omega)] at hR
          refine C_ret rfl ?_; simp -dsimp -implicitDefEqProofs only [go_sem, eq_self, ↓reduceIte]; refine ⟨_, rfl, ?_⟩
          rw [hR]
          exact VLe.refl _
        · rw [if_pos (by omega)] at hR
          refine C_ret rfl ?_; simp -dsimp -implicitDefEqProofs only [go_sem, eq_self, ↓reduceIte]; refine ⟨_, rfl, ?_⟩
          rw [hR]
          exact VLe.refl _
      all_goals (rw [if_pos (by omega)] at hR)
      all_goals (refine C_ret rfl ?_; simp -dsimp -implicitDefEqProofs only [go_sem, eq_self, ↓reduceIte]; refine ⟨_, rfl, ?_⟩)
      all_goals (rw [hR])
      all_goals (exact VLe.refl _)
    · rw [if_neg (take_ne (by omega))] at hR
      refine ⟨q + 1, ⟨by omega, by omega, hR⟩, by omega, ?_⟩
      rw [e2]
      exact wkA
  · have hq18 : q = 18 := by omega
    subst hq18
    (repeat' (first | (refine C_seq rfl ?_) | (refine C_block rfl ?_) | (refine C_skip rfl ?_; (try simp -dsimp -implicitDefEqProofs only [go_sem, eq_self, ↓reduceIte])) | (refine C_exit rfl ?_; (try simp -dsimp -implicitDefEqProofs only [go_sem, eq_self, ↓reduceIte])) | (refine C_cond rfl _ rfl (fun ht => ?_) (fun ht => ?_) <;> (try (simp only [nf] at ht)) <;> (try (exfalso; omega))) | ((first | (refine S_reg0 rfl [0,2,3,4,5,6,7,8,9,10,12,32,55,75] rfl rfl (fun K hK => ?_)) | (refine S_drw0 rfl [0,2,3,4,5,6,7,8,9,10,12,32,55,75] rfl (by kernel_rfl) rfl (fun K hK => ?_))); simp -dsimp -implicitDefEqProofs only [go_sem, eq_self, ↓reduceIte]; (repeat' (first | (refine And.intro ?_ ?_) | (refine gs_both (fun hb => ?_) (fun hb => ?_) <;> (have hg := hb; (try simp only [nfb] at hg); simp -dsimp -implicitDefEqProofs only [go_sem, hb, hg, eq_self, ↓reduceIte]; clear hb; (try simp only [nfe] at hg))))); any_goals ((first | (refine hK _ _ _ _ (fun hx => ?_)) | (refine hK _ _ _ _ (drawA (fun i => i - k)) (fun hx => ?_)) | (refine hK _ _ _ _ drawB (fun hx => ?_))); clear hx hK; simp -dsimp -implicitDefEqProofs only [go_sem, eq_self, ↓reduceIte]; (try simp (disch := omega) only [wrap_i64, wrap_u64, wrap_u32, wrap_u8]))) | omega))
    refine C_ret rfl ?_; simp -dsimp -implicitDefEqProofs only [go_sem, eq_self, ↓reduceIte]; refine ⟨_, rfl, ?_⟩
    rw [hR]
    exact VLe.refl _
end Go.Proofs.T
end
