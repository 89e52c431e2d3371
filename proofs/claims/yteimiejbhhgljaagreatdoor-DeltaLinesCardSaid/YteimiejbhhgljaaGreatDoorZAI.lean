import Derived.Test.YteimiejbhhgljaaGreatDoorZAH
import Derived.Lib.ParseIntBCases
import Derived.Shelf.Strings.OnBuilder
import Derived.Test.YteimiejbhhgljaaGreatDoorProg
set_option linter.unusedVariables false
set_option linter.unusedSimpArgs false
section
namespace Go.Proofs.T
open Go Go.AM Go.Proofs Go.Lib
set_option maxRecDepth 20000
variable {Γ : List (Nat × List AVal)}
theorem wrap_u64' {n : Int} (h0 : 0 ≤ n) (h1 : n ≤ 18446744073709551615) : IntKind.u64.wrap n = n := by
  simp [IntKind.wrap, IntKind.bits, IntKind.signed]; omega
theorem decU_c (n : Nat) (hn : n ≤ 18446744073709551615) : Pure Tryz.prog Γ 174 [.lit (.int .u64 (n : Int))] (.lit (.string (ByteArray.mk (decDigits n).toArray))) := by
  have hlen := dec_len 19 n (by omega)
  refine Pure_at Tryz.func174 rfl 20 rfl (Nat.le_of_ble_eq_true rfl) rfl fun k => ?_
  have kp : Kp [0,2,3,9] (fun i => i - k) := kpI
  refine wl ?_ <;> and_intros <;> first | exact hdT | (apply zM; (repeat intro ht); apply zM; (repeat intro hg); apply zM)
  refine M_forO (X := Nat × List UInt8) rfl [0,2,3,9] k (fun x => [(0, .lit (.int .u64 (x.1 : Int))), (3, .lit (.string (ByteArray.mk x.2.toArray)))]) (fun x => []) (fun x => dInv n x ∧ x.1 ≤ n) (fun x => 2 * x.1 + (if x.2 = [] then 1 else 0)) (n, []) ?_ ⟨.inl ⟨rfl, rfl⟩, Nat.le_refl _⟩ ?_
  · refine rR ?_ <;> first | exact hdT | apply zN
    exact wkF
  rintro ⟨m, o⟩ ⟨hi, hmn⟩
  have hil : o.length ≤ (decDigits n).length := dInv_len hi
  have hm' : m ≤ n := hmn
  refine rR ?_ <;> first | exact hdT | apply zN
  have tm : (m : Int).tmod 10 = ((m % 10 : Nat) : Int) := by rw [Int.tmod_eq_emod_of_nonneg (by omega)]; omega
  have td : (m : Int).tdiv 10 = ((m / 10 : Nat) : Int) := by rw [Int.tdiv_eq_ediv_of_nonneg (by omega)]; omega
  have e48 : Utf8.encode (IntKind.i32.wrap (IntKind.u64.wrap (48 + ((m % 10 : Nat) : Int)))) = ByteArray.mk [UInt8.ofNat (48 + m % 10)].toArray := by
    rw [wrap_u64' (by omega) (by omega), wrap_i32 (by omega) (by omega), utf8_dig (by omega) (by omega)]
    have : (48 + ((m % 10 : Nat) : Int)).toNat = 48 + m % 10 := by omega
    rw [this]
  have uU := zA @tm (zA @td @e48)
  refine wl ?_ <;> and_intros <;> first | exact hdT | (apply zM; (repeat intro ht); apply zM; (repeat intro hg); apply zM)
  · refine ⟨(m / 10, UInt8.ofNat (48 + m % 10) :: o), ⟨dInv_next hi (.inr (by omega)), by show m / 10 ≤ n; omega⟩, by simp only [reduceCtorEq, if_false]; omega, ?_⟩
    (have uU := zA @tm (zA @td @e48); exact wkU)
  · refine C_ret rfl ⟨_, rfl, VLe.of_eq ?_⟩
    rw [show o = decDigits n from dInv_end hi hg (by show m = 0; omega)]
  · subst hg
    refine ⟨(m / 10, UInt8.ofNat (48 + m % 10) :: []), ⟨dInv_next hi (.inl rfl), by show m / 10 ≤ n; omega⟩, by simp only [reduceCtorEq, if_false, if_true]; omega, ?_⟩
    (have uU := zA @tm (zA @td @e48); exact wkU)
theorem bit_u64 (m : Int) (hm : 0 ≤ m ∧ m ≤ 18446744073709551615) (c : Nat) (hc : c < 64) :
    (IntKind.u64.wrap ↑(BitVec.ofInt IntKind.u64.bits (m.fdiv (2 ^ min c 64)) &&& BitVec.ofInt IntKind.u64.bits 1).toNat == 1) = m.toNat.testBit c := by
  obtain ⟨M, rfl⟩ : ∃ M : Nat, m = M := ⟨m.toNat, by omega⟩
  have e0 : min c 64 = c := by omega
  have e1 : ((M : Int).fdiv (2 ^ c)) = ((M / 2 ^ c : Nat) : Int) := by
    rw [Int.fdiv_eq_ediv_of_nonneg _ (by exact Int.le_of_lt (Int.pow_pos (by decide)))]; simp
  have e2 : (BitVec.ofInt IntKind.u64.bits ((M / 2 ^ c : Nat) : Int) &&& BitVec.ofInt IntKind.u64.bits 1).toNat = M / 2 ^ c % 2 := by
    rw [BitVec.toNat_and]
    have h1 : (BitVec.ofInt IntKind.u64.bits 1).toNat = 1 := by decide
    rw [h1, Nat.and_one_is_mod, show IntKind.u64.bits = 64 from rfl, BitVec.ofInt_natCast, BitVec.toNat_ofNat]
    omega
  rw [e0, e1, e2, wrap_u64' (by omega) (by omega), Int.toNat_natCast, Nat.testBit_eq_decide_div_mod_eq]
  rcases Nat.mod_two_eq_zero_or_one (M / 2 ^ c) with h | h <;> rw [h] <;> rfl
theorem has_c (m : Int) (hm : 0 ≤ m ∧ m ≤ 18446744073709551615) (c : Nat) (hc : c ≤ 100) : Pure Tryz.prog Γ 217 [.lit (.int .u64 m), .lit (.int .i64 (c : Int))] (.lit (.bool (decide (c < 64) && m.toNat.testBit c))) := by
  refine Pure_at Tryz.func217 rfl 18 rfl (Nat.le_of_ble_eq_true rfl) rfl fun k => ?_
  have kp : Kp [0,1,4] (fun i => i - k) := kpI
  refine wl ?_ <;> and_intros <;> first | exact hdT | (apply zM; (repeat intro ht); apply zM; (repeat intro hg); apply zM)
  · refine C_ret rfl ⟨_, rfl, VLe.of_eq ?_⟩
    rw [bit_u64 m hm c (by omega), decide_eq_true (by omega : c < 64)]; rfl
  · refine C_ret rfl ⟨_, rfl, VLe.of_eq ?_⟩
    rw [decide_eq_false (by omega : ¬ c < 64)]; rfl
end Go.Proofs.T
end
section
namespace Go.Proofs.T
open Go Go.Lib
def lastB (b : Nat → Bool) : Nat → Nat → Nat
  | 0, c => c
  | f + 1, c => if b (c + 1) = true then lastB b f (c + 1) else c
def runsB (b : Nat → Bool) : Nat → Nat → List (Nat × Nat)
  | 0, _ => []
  | f + 1, c => if c < 64 then (if b c = true then (c, lastB b 64 c) :: runsB b f (lastB b 64 c + 1) else runsB b f (c + 1)) else []
def Stop64 (b : Nat → Bool) : Prop := ∀ c, 64 ≤ c → b c = false
theorem lastB_ge (b : Nat → Bool) : ∀ f c, c ≤ lastB b f c
  | 0, c => Nat.le_refl _
  | f + 1, c => by
    rw [lastB]; split
    · have := lastB_ge b f (c + 1); omega
    · exact Nat.le_refl _
theorem lastB_lt {b : Nat → Bool} (hb : Stop64 b) : ∀ f c, c < 64 → lastB b f c < 64
  | 0, c, h => h
  | f + 1, c, h => by
    rw [lastB]; split
    · rename_i h1
      have : c + 1 < 64 := Nat.lt_of_not_le fun e => by rw [hb _ e] at h1; cases h1
      exact lastB_lt hb f (c + 1) this
    · exact h
theorem lastB_all {b : Nat → Bool} : ∀ f c d, b c = true → c ≤ d → d ≤ lastB b f c → b d = true
  | 0, c, d, h, h1, h2 => by
    rw [lastB] at h2
    have e : d = c := by omega
    rw [e]; exact h
  | f + 1, c, d, h, h1, h2 => by
    rw [lastB] at h2
    split at h2
    · rename_i h3
      by_cases hd : d = c
      · rw [hd]; exact h
      · exact lastB_all f (c + 1) d h3 (by omega) h2
    · have : d = c := by omega
      rw [this]; exact h
theorem lastB_end {b : Nat → Bool} (hb : Stop64 b) : ∀ f c, 64 ≤ c + f → b (lastB b f c + 1) = false
  | 0, c, h => hb _ (by rw [lastB]; omega)
  | f + 1, c, h => by
    rw [lastB]; split
    · exact lastB_end hb f (c + 1) (by omega)
    · rename_i h1; simpa using h1
theorem lastB_eq {b : Nat → Bool} : ∀ f c l, c ≤ l → l ≤ c + f → (∀ d, c < d → d ≤ l → b d = true) → b (l + 1) = false → lastB b f c = l
  | 0, c, l, h1, h2, _, _ => by rw [lastB]; omega
  | f + 1, c, l, h1, h2, h3, h4 => by
    rw [lastB]
    by_cases h : c = l
    · subst h; rw [if_neg (by rw [h4]; simp)]
    · rw [if_pos (h3 (c + 1) (by omega) (by omega))]
      exact lastB_eq f (c + 1) l (by omega) (by omega) (fun d hd => h3 d (by omega)) h4
def VR : Nat → List (Nat × Nat) → Prop
  | _, [] => True
  | lo, (f, l) :: r => lo ≤ f ∧ f ≤ l ∧ l < 64 ∧ VR (l + 2) r
theorem VR.mono : ∀ {l : List (Nat × Nat)} {a b : Nat}, a ≤ b → VR b l → VR a l
  | [], _, _, _, _ => trivial
  | (_, _) :: _, _, _, h, ⟨h1, h2⟩ => ⟨Nat.le_trans h h1, h2⟩
theorem runsB_VR {b : Nat → Bool} (hb : Stop64 b) (f : Nat) : ∀ c, VR c (runsB b f c) := by
  induction f using Nat.strongRecOn with
  | _ f ih =>
    intro c
    cases f with
    | zero => trivial
    | succ f =>
      rw [runsB]
      split
      · rename_i hc
        split
        · refine ⟨Nat.le_refl _, lastB_ge b 64 c, lastB_lt hb 64 c hc, ?_⟩
          have he := lastB_end hb 64 c (by omega)
          cases f with
          | zero => trivial
          | succ f =>
            rw [runsB]
            split
            · rw [if_neg (by rw [he]; simp)]; exact ih f (by omega) _
            · trivial
        · exact (ih f (by omega) (c + 1)).mono (by omega)
      · trivial
def covers (l : List (Nat × Nat)) (c : Nat) : Bool := l.any fun x => decide (x.1 ≤ c) && decide (c ≤ x.2)
theorem covers_cons (f l : Nat) (r : List (Nat × Nat)) (c : Nat) : covers ((f, l) :: r) c = ((decide (f ≤ c) && decide (c ≤ l)) || covers r c) := rfl
theorem covers_lo : ∀ {l : List (Nat × Nat)} {a c : Nat}, VR a l → c < a → covers l c = false
  | [], _, _, _, _ => rfl
  | (f, l) :: r, a, c, ⟨h1, h2, h3, h4⟩, hc => by
    rw [covers_cons, covers_lo h4 (by omega)]
    simp; omega
theorem covers_stop : ∀ {l : List (Nat × Nat)} {a : Nat}, VR a l → Stop64 (covers l)
  | [], _, _, _, _ => rfl
  | (f, l) :: r, a, ⟨h1, h2, h3, h4⟩, c, hc => by
    rw [covers_cons, covers_stop h4 c hc]
    simp; omega
theorem runsB_covers {b : Nat → Bool} (hb : Stop64 b) (f : Nat) : ∀ c, 64 ≤ c + f → ∀ d, c ≤ d → covers (runsB b f c) d = b d := by
  induction f using Nat.strongRecOn with
  | _ f ih =>
    intro c hf d hd
    cases f with
    | zero => rw [runsB, hb d (by omega)]; rfl
    | succ f =>
      rw [runsB]
      split
      · rename_i hc
        have hge := lastB_ge b 64 c
        have hlt := lastB_lt hb 64 c hc
        split
        · rename_i h
          rw [covers_cons]
          by_cases hl : d ≤ lastB b 64 c
          · rw [lastB_all 64 c d h hd hl]; simp [hd, hl]
          · have hv : covers (runsB b f (lastB b 64 c + 1)) d = b d := by
              by_cases hf' : 64 ≤ lastB b 64 c + 1 + f
              · exact ih f (by omega) _ hf' d (by omega)
              · omega
            rw [hv]; simp [hl]
        · rename_i h
          by_cases he : d = c
          · subst he
            rw [covers_lo (runsB_VR hb f (d + 1)) (by omega)]
            simpa using (Bool.not_eq_true _ ▸ h : b d = false).symm
          · exact ih f (by omega) (c + 1) (by omega) d (by omega)
      · rename_i hc
        rw [hb d (by omega)]; rfl
theorem runsB_of : ∀ (l : List (Nat × Nat)) (a : Nat) (b : Nat → Bool) (f : Nat), VR a l → Stop64 b → (∀ d, a ≤ d → b d = covers l d) → 64 ≤ a + f → runsB b f a = l := by
  intro l a b f
  induction f using Nat.strongRecOn generalizing l a with
  | _ f ih =>
    intro hv hb hc hf
    cases f with
    | zero =>
      rw [runsB]
      match l, hv with
      | [], _ => rfl
      | (x, y) :: r, ⟨h1, h2, h3, _⟩ => omega
    | succ f =>
      rw [runsB]
      by_cases ha : a < 64
      · rw [if_pos ha]
        match l, hv with
        | [], _ =>
          rw [if_neg (by rw [hc a (Nat.le_refl _)]; simp [covers])]
          exact ih f (by omega) [] (a + 1) trivial hb (fun d hd => hc d (by omega)) (by omega)
        | (x, y) :: r, ⟨h1, h2, h3, h4⟩ =>
          by_cases hx : a = x
          · subst hx
            have hba : b a = true := by rw [hc a (Nat.le_refl _), covers_cons]; simp [h2]
            have hl : lastB b 64 a = y := by
              refine lastB_eq 64 a y h2 (by omega) (fun d h5 h6 => ?_) ?_
              · rw [hc d (by omega), covers_cons]; simp; left; omega
              · rw [hc (y + 1) (by omega), covers_cons, covers_lo h4 (by omega)]; simp
            rw [if_pos hba, hl]
            congr 1
            cases f with
            | zero =>
              rw [runsB]
              match r, h4 with
              | [], _ => rfl
              | (x', y') :: r', ⟨g1, g2, g3, _⟩ => omega
            | succ f =>
              have hz : b (y + 1) = false := by rw [hc (y + 1) (by omega), covers_cons, covers_lo h4 (by omega)]; simp
              rw [runsB]
              by_cases hy : y + 1 < 64
              · rw [if_pos hy, if_neg (by rw [hz]; simp)]
                exact ih f (by omega) r (y + 2) h4 hb (fun d hd => by rw [hc d (by omega), covers_cons]; simp; omega) (by omega)
              · rw [if_neg hy]
                match r, h4 with
                | [], _ => rfl
                | (x', y') :: r', ⟨g1, g2, g3, _⟩ => omega
          · rw [if_neg (by rw [hc a (Nat.le_refl _), covers_cons, covers_lo h4 (by omega)]; simp; omega)]
            exact ih f (by omega) ((x, y) :: r) (a + 1) ⟨by omega, h2, h3, h4⟩ hb (fun d hd => hc d (by omega)) (by omega)
      · rw [if_neg ha]
        match l, hv with
        | [], _ => rfl
        | (x, y) :: r, ⟨h1, h2, h3, _⟩ => omega
end Go.Proofs.T
end
section
namespace Go.Proofs.T
open Go Go.Lib Go.AM
def runT (x : Nat × Nat) : List UInt8 := decDigits x.1 ++ (if x.1 < x.2 then 45 :: decDigits x.2 else [])
def encR : List (Nat × Nat) → List UInt8
  | [] => []
  | [x] => runT x
  | x :: y :: r => runT x ++ 44 :: encR (y :: r)
def maskT (l : List (Nat × Nat)) : List UInt8 := if l = [] then [45] else encR l
theorem dec_no {n : Nat} {c : UInt8} (h : dig c = false) : c ∉ decDigits n := fun e => by rw [dec_dig n c e] at h; cases h
theorem runT_no44 (x : Nat × Nat) : (44 : UInt8) ∉ runT x := by
  unfold runT
  rw [List.mem_append]
  rintro (h | h)
  · exact dec_no (by decide) h
  · split at h
    · rcases List.mem_cons.1 h with h | h
      · revert h; decide
      · exact dec_no (by decide) h
    · cases h
theorem indexC_hit (c : UInt8) : ∀ (a s : List UInt8), c ∉ a → index (a ++ c :: s) [c] = (a.length : Int)
  | [], s, _ => by simp [index]
  | d :: a, s, h => by
    have hc : d ≠ c := fun e => h (by simp [e])
    have ih := indexC_hit c a s (fun e => h (by simp [e]))
    simp only [List.cons_append, index]
    rw [if_neg (by simp [Ne.symm hc]), ih, if_neg (by simp)]
    simp
theorem indexC_miss (c : UInt8) : ∀ (a : List UInt8), c ∉ a → index a [c] = -1
  | [], _ => by simp [index]
  | d :: a, h => by
    have hc : d ≠ c := fun e => h (by simp [e])
    have ih := indexC_miss c a (fun e => h (by simp [e]))
    simp only [index]
    rw [if_neg (by simp [Ne.symm hc]), ih, if_pos (by simp)]
theorem cut_hit {c : UInt8} {a s : List UInt8} (h : c ∉ a) : cut (a ++ c :: s) [c] = (a, s, true) := by
  unfold cut
  rw [indexC_hit c a s h, if_pos (by omega)]
  have hd : (a ++ c :: s).drop (a.length + [c].length) = s := by rw [← List.drop_drop, List.drop_left]; rfl
  simp only [Int.toNat_natCast, List.take_left]
  rw [hd]
theorem cut_miss {c : UInt8} {a : List UInt8} (h : c ∉ a) : cut a [c] = (a, [], false) := by
  unfold cut; rw [indexC_miss c a h, if_neg (by omega)]
theorem contains_hit {c : UInt8} {a s : List UInt8} (h : c ∉ a) : Lib.contains (a ++ c :: s) [c] = true := by unfold Lib.contains; rw [indexC_hit c a s h]; simp
theorem contains_miss {c : UInt8} {a : List UInt8} (h : c ∉ a) : Lib.contains a [c] = false := by unfold Lib.contains; rw [indexC_miss c a h]; simp
theorem index_le (c : UInt8) : ∀ (s : List UInt8), index s [c] = -1 ∨ ∃ i : Nat, index s [c] = i ∧ i < s.length
  | [] => .inl (by simp [index])
  | d :: s => by
    simp only [index]
    split
    · exact .inr ⟨0, rfl, by simp⟩
    · rcases index_le c s with h | ⟨i, h, hl⟩
      · left; rw [h]; simp
      · right; refine ⟨i + 1, ?_, by simp; omega⟩
        rw [h, if_neg (by simp)]; rfl
theorem cut_shorter (c : UInt8) (s : List UInt8) (h : s ≠ []) : (cut s [c]).2.1.length < s.length := by
  have hp : 0 < s.length := List.length_pos_iff.2 h
  unfold cut
  rcases index_le c s with e | ⟨i, e, hl⟩
  · rw [e, if_neg (by omega)]; simpa using hp
  · rw [e, if_pos (by omega)]; simp only [List.length_drop, List.length_cons, List.length_nil]; omega
theorem cut_le (c : UInt8) (s : List UInt8) : (cut s [c]).2.1.length ≤ s.length ∧ (cut s [c]).1.length ≤ s.length := by
  unfold cut
  split
  · simp only [List.length_drop, List.length_take]; omega
  · simp
def numE (w : List UInt8) : Nat := match atoiAll w with
  | .ok n => if 0 ≤ n ∧ n < 64 then n.toNat else 0
  | _ => 0
theorem numE_dec {n : Nat} (h : n < 64) : numE (decDigits n) = n := by
  unfold numE; rw [atoi_dec n (by omega)]; simp only []; rw [if_pos (by omega)]; simp
theorem numE_lt (w : List UInt8) : numE w < 64 := by
  unfold numE
  split
  · split <;> omega
  · omega
def stepG (rest : List UInt8) : (Nat × Nat) × List UInt8 :=
  if Lib.contains (cut rest [44]).1 [45] = true then ((numE (cut rest [45]).1, numE (cut (cut rest [45]).2.1 [44]).1), (cut (cut rest [45]).2.1 [44]).2.1)
  else ((numE (cut rest [44]).1, numE (cut rest [44]).1), (cut rest [44]).2.1)
def guessG : Nat → List UInt8 → List (Nat × Nat)
  | 0, _ => []
  | f + 1, rest => if rest = [] then [] else (stepG rest).1 :: guessG f (stepG rest).2
theorem stepG_last {x : Nat × Nat} (h1 : x.1 ≤ x.2) (h2 : x.2 < 64) : stepG (runT x) = (x, []) := by
  obtain ⟨a, b⟩ := x
  simp only [] at h1 h2
  unfold stepG
  rw [cut_miss (runT_no44 (a, b))]
  simp only []
  unfold runT
  simp only []
  split
  · rename_i hlt
    rw [if_pos (contains_hit (dec_no (by decide))), cut_hit (dec_no (by decide))]
    simp only []
    rw [cut_miss (dec_no (by decide)), numE_dec (by omega), numE_dec h2]
  · rename_i hge
    have e : a = b := by omega
    subst e
    rw [List.append_nil, if_neg (by rw [contains_miss (dec_no (by decide))]; simp), numE_dec (by omega)]
theorem stepG_more {x : Nat × Nat} {s : List UInt8} (h1 : x.1 ≤ x.2) (h2 : x.2 < 64) : stepG (runT x ++ 44 :: s) = (x, s) := by
  obtain ⟨a, b⟩ := x
  simp only [] at h1 h2
  unfold stepG
  rw [cut_hit (runT_no44 (a, b))]
  simp only []
  unfold runT
  simp only []
  split
  · rename_i hlt
    rw [if_pos (contains_hit (dec_no (by decide))), List.append_assoc, List.cons_append, cut_hit (dec_no (by decide))]
    simp only []
    rw [cut_hit (dec_no (by decide)), numE_dec (by omega), numE_dec h2]
  · rename_i hge
    have e : a = b := by omega
    subst e
    rw [List.append_nil, if_neg (by rw [contains_miss (dec_no (by decide))]; simp), numE_dec (by omega)]
theorem runT_ne (x : Nat × Nat) : runT x ≠ [] := by
  unfold runT
  have := dec_ne x.1
  simp [this]
theorem guess_enc : ∀ (l : List (Nat × Nat)) (a : Nat) (f : Nat), VR a l → l.length ≤ f → guessG f (encR l) = l
  | [], _, f, _, _ => by cases f <;> simp [guessG, encR]
  | [x], a, f, ⟨_, h1, h2, _⟩, hf => by
    cases f with
    | zero => simp at hf
    | succ f =>
      rw [encR, guessG, if_neg (runT_ne x), stepG_last h1 h2]
      simp only []
      cases f <;> simp [guessG]
  | x :: y :: r, a, f, ⟨_, h1, h2, h3⟩, hf => by
    cases f with
    | zero => simp at hf
    | succ f =>
      rw [encR, guessG, if_neg (by simp), stepG_more h1 h2]
      simp only []
      rw [guess_enc (y :: r) _ f h3 (by simpa using hf)]
def numR (t : List UInt8) : Int × Nat :=
  if (t.take 3).takeWhile dig = [] ∨ 63 < valF 0 ((t.take 3).takeWhile dig) ∨ (t.head? = some 48 ∧ 1 < ((t.take 3).takeWhile dig).length) then (-1, ((t.take 3).takeWhile dig).length)
  else ((valF 0 ((t.take 3).takeWhile dig) : Int), ((t.take 3).takeWhile dig).length)
theorem takeWhile_hit {ds rest : List UInt8} (hd : ∀ c ∈ ds, dig c = true) (hr : ∀ c r, rest = c :: r → dig c = false) (n : Nat) (hn : ds.length ≤ n) : ((ds ++ rest).take n).takeWhile dig = ds := by
  rw [List.take_append, List.take_of_length_le hn, List.takeWhile_append_of_pos hd]
  have : (rest.take (n - ds.length)).takeWhile dig = [] := by
    cases rest with
    | nil => simp
    | cons c r =>
      cases n - ds.length with
      | zero => simp
      | succ m => simp [hr c r rfl]
  rw [this, List.append_nil]
theorem dec_len2 {n : Nat} (h : n < 64) : (decDigits n).length ≤ 2 := by
  by_cases h1 : n < 10
  · rw [dec_lt10 h1]; simp
  · rw [dec_big h1, dec_lt10 (by omega)]; simp
theorem numR_hit {n : Nat} {rest : List UInt8} (h : n < 64) (hr : ∀ c r, rest = c :: r → dig c = false) : numR (decDigits n ++ rest) = ((n : Int), (decDigits n).length) := by
  have hc := dec_canon n
  have hl := dec_len2 h
  have e := takeWhile_hit hc.all hr 3 (by omega)
  unfold numR
  rw [e, dec_val, if_neg]
  rintro (h1 | h1 | ⟨h1, h2⟩)
  · exact hc.ne h1
  · omega
  · have : (decDigits n).head? = some 48 := by
      obtain ⟨x, m, e⟩ := List.exists_cons_of_ne_nil hc.ne
      rw [e] at h1 ⊢; simpa using h1
    have := hc.head this
    omega
theorem numR_is {t : List UInt8} {a : Int} {k : Nat} (h : numR t = (a, k)) (ha : 0 ≤ a) : ∃ n : Nat, a = n ∧ n < 64 ∧ t = decDigits n ++ t.drop k ∧ k = (decDigits n).length := by
  unfold numR at h
  split at h
  · cases h; omega
  · rename_i hn
    cases h
    generalize hds : (t.take 3).takeWhile dig = ds at hn ⊢
    have hpre : ds <+: t := by
      rw [← hds]; exact (List.takeWhile_prefix dig).trans (List.take_prefix 3 t)
    obtain ⟨r, rfl⟩ := hpre
    have hall : ∀ c ∈ ds, dig c = true := fun c hc => by
      rw [← hds] at hc; exact List.all_eq_true.1 List.all_takeWhile c hc
    have hcan : Canon ds := by
      refine ⟨fun e => hn (.inl e), hall, fun e => ?_⟩
      by_cases hl : ds.length = 1
      · exact hl
      · exfalso
        have hne : ds ≠ [] := fun e => hn (.inl e)
        have : ds.length ≠ 0 := fun e => hne (List.length_eq_zero_iff.1 e)
        refine hn (.inr (.inr ⟨?_, by omega⟩))
        obtain ⟨x, m, e'⟩ := List.exists_cons_of_ne_nil hne
        rw [e'] at e ⊢; simpa using e
    have hd : decDigits (valF 0 ds) = ds := dec_of hcan
    refine ⟨valF 0 ds, rfl, by omega, ?_, by rw [hd]⟩
    rw [hd, List.drop_left]
theorem numR_lo (t : List UInt8) : -1 ≤ (numR t).1 := by
  unfold numR; split
  · exact Int.le_refl _
  · show -1 ≤ (_ : Int); omega
def finR (p : Nat → List UInt8 → Option (List (Nat × Nat))) (n m : Nat) : List UInt8 → Option (List (Nat × Nat))
  | [] => some [(n, m)]
  | c :: r => if c = 44 then (p (m + 2) r).map ((n, m) :: ·) else none
def parseR : Nat → Nat → List UInt8 → Option (List (Nat × Nat))
  | 0, _, _ => none
  | f + 1, least, t =>
    if (numR t).1 < (least : Int) then none
    else match t.drop (numR t).2 with
      | 45 :: t2 => if (numR t2).1 ≤ (numR t).1 then none else finR (parseR f) (numR t).1.toNat (numR t2).1.toNat (t2.drop (numR t2).2)
      | t1 => finR (parseR f) (numR t).1.toNat (numR t).1.toNat t1
theorem parse_is : ∀ (f least : Nat) (t : List UInt8) (l : List (Nat × Nat)), parseR f least t = some l → l ≠ [] ∧ VR least l ∧ encR l = t
  | 0, _, _, _, h => by cases h
  | f + 1, least, t, l, h => by
    have hfin : ∀ (n m : Nat) (t1 : List UInt8), finR (parseR f) n m t1 = some l → least ≤ n → n ≤ m → m < 64 → l ≠ [] ∧ VR least l ∧ encR l = runT (n, m) ++ t1 := fun n m t1 h h1 h2 h3 => by
      cases t1 with
      | nil => simp only [finR, Option.some.injEq] at h; subst h; exact ⟨by simp, ⟨h1, h2, h3, trivial⟩, by rw [encR, List.append_nil]⟩
      | cons c r =>
        simp only [finR] at h
        split at h
        · rename_i hc
          simp only [Option.map_eq_some_iff] at h
          obtain ⟨l', hl', rfl⟩ := h
          obtain ⟨g1, g2, g3⟩ := parse_is f _ _ _ hl'
          refine ⟨by simp, ⟨h1, h2, h3, g2⟩, ?_⟩
          obtain ⟨y, r', rfl⟩ := List.exists_cons_of_ne_nil g1
          rw [encR, g3, hc]
        · cases h
    rw [parseR] at h
    split at h
    · cases h
    · rename_i h0
      obtain ⟨n, hn, hn64, ht, hk⟩ := numR_is (t := t) (a := (numR t).1) (k := (numR t).2) rfl (by omega)
      rw [hn] at h h0
      split at h
      · rename_i t2 he
        split at h
        · cases h
        · rename_i hm
          obtain ⟨m, hm', hm64, ht2, hk2⟩ := numR_is (t := t2) (a := (numR t2).1) (k := (numR t2).2) rfl (by omega)
          rw [hm'] at h hm
          obtain ⟨g1, g2, g3⟩ := hfin _ _ _ h (by omega) (by omega) (by omega)
          refine ⟨g1, g2, ?_⟩
          simp only [Int.toNat_natCast] at g3
          rw [g3, runT]
          simp only []
          rw [if_pos (by omega), List.append_assoc, List.cons_append, ← ht2, ← he]
          exact ht.symm
      · obtain ⟨g1, g2, g3⟩ := hfin _ _ _ h (by omega) (Nat.le_refl _) (by omega)
        refine ⟨g1, g2, ?_⟩
        simp only [Int.toNat_natCast] at g3
        rw [g3, runT]
        simp only []
        rw [if_neg (by omega), List.append_nil]
        exact ht.symm
theorem parse_run (f least : Nat) (x : Nat × Nat) (t : List UInt8) (h1 : least ≤ x.1) (h2 : x.1 ≤ x.2) (h3 : x.2 < 64) (ht : ∀ c r, t = c :: r → c = 44) : parseR (f + 1) least (runT x ++ t) = finR (parseR f) x.1 x.2 t := by
  obtain ⟨n, m⟩ := x
  simp only [] at h1 h2 h3
  have hdig : ∀ c r, t = c :: r → dig c = false := fun c r e => by rw [ht c r e]; rfl
  unfold runT
  simp only []
  rw [parseR]
  by_cases hlt : n < m
  · rw [if_pos hlt, List.append_assoc, List.cons_append]
    have e1 := numR_hit (n := n) (rest := 45 :: (decDigits m ++ t)) (by omega) (fun c r e => by cases e; rfl)
    have e2 := numR_hit (n := m) (rest := t) h3 hdig
    rw [e1]
    simp only []
    rw [if_neg (by omega), List.drop_left]
    simp only []
    rw [e2]
    simp only []
    rw [if_neg (by omega), List.drop_left]
    simp
  · have e : n = m := by omega
    subst e
    rw [if_neg hlt, List.append_nil]
    have e1 := numR_hit (n := n) (rest := t) h3 hdig
    rw [e1]
    simp only []
    rw [if_neg (by omega), List.drop_left]
    split
    · rename_i t2; exact absurd (ht 45 t2 rfl) (by decide)
    · simp
theorem parse_enc : ∀ (l : List (Nat × Nat)) (least f : Nat), l ≠ [] → VR least l → l.length ≤ f → parseR f least (encR l) = some l
  | [], _, _, h, _, _ => absurd rfl h
  | [x], least, f, _, ⟨h1, h2, h3, _⟩, hf => by
    cases f with
    | zero => simp at hf
    | succ f =>
      rw [encR]
      have := parse_run f least x [] h1 h2 h3 (fun c r e => by cases e)
      rw [List.append_nil] at this
      rw [this, finR]
  | x :: y :: r, least, f, _, ⟨h1, h2, h3, h4⟩, hf => by
    cases f with
    | zero => simp at hf
    | succ f =>
      rw [encR, parse_run f least x _ h1 h2 h3 (fun c r e => by cases e; rfl), finR, if_pos rfl, parse_enc (y :: r) _ f (by simp) h4 (by simpa using hf)]
      rfl
theorem encR_ne {l : List (Nat × Nat)} (h : l ≠ []) : encR l ≠ [] := by
  match l, h with
  | [x], _ => exact runT_ne x
  | x :: y :: r, _ => simp [encR]
theorem encR_len : ∀ (l : List (Nat × Nat)), l.length ≤ (encR l).length
  | [] => Nat.le_refl _
  | [x] => by have := List.length_pos_iff.2 (runT_ne x); rw [encR]; simp only [List.length_cons, List.length_nil]; omega
  | x :: y :: r => by
    have := encR_len (y :: r)
    simp only [encR, List.length_append, List.length_cons] at this ⊢; omega
theorem encR_ne45 {l : List (Nat × Nat)} : encR l ≠ [45] := by
  match l with
  | [] => simp [encR]
  | x :: r =>
    have hd : ∀ s, decDigits x.1 ++ s ≠ [45] := fun s e => by
      obtain ⟨c, m, e'⟩ := List.exists_cons_of_ne_nil (dec_ne x.1)
      rw [e', List.cons_append] at e
      have := dec_dig x.1 c (by rw [e']; simp)
      rw [(List.cons.inj e).1] at this
      revert this; decide
    cases r with
    | nil => rw [encR, runT]; exact hd _
    | cons y r => rw [encR, runT, List.append_assoc]; exact hd _
end Go.Proofs.T
end
section
namespace Go.Proofs.T
open Go Go.AM Go.Lib
set_option maxRecDepth 20000
def jn : List (List UInt8) → List UInt8
  | [] => []
  | [w] => w
  | w :: v :: r => w ++ 32 :: jn (v :: r)
theorem jn_cons {w : List UInt8} {r : List (List UInt8)} (h : r ≠ []) : jn (w :: r) = w ++ 32 :: jn r := by
  cases r with
  | nil => exact absurd rfl h
  | cons v r => rfl
theorem split_jn : ∀ {ws : List (List UInt8)}, ws ≠ [] → (∀ w ∈ ws, (32 : UInt8) ∉ w) → split (jn ws) [32] = ws
  | [], h, _ => absurd rfl h
  | [w], _, hn => split_one (hn w (by simp))
  | w :: v :: r, _, hn => by
    rw [jn_cons (by simp), split_cons (hn w (by simp)), split_jn (by simp) (fun x hx => hn x (List.mem_cons_of_mem _ hx))]
theorem first32 : ∀ (s : List UInt8), (32 : UInt8) ∉ s ∨ ∃ a t, (32 : UInt8) ∉ a ∧ s = a ++ 32 :: t
  | [] => .inl (by simp)
  | c :: s => by
    by_cases hc : c = 32
    · subst hc; exact .inr ⟨[], s, by simp, rfl⟩
    · rcases first32 s with h | ⟨a, t, h1, rfl⟩
      · exact .inl (by simp [Ne.symm hc, h])
      · exact .inr ⟨c :: a, t, by simp [Ne.symm hc, h1], rfl⟩
theorem split_both : ∀ (n : Nat) (s : List UInt8), s.length ≤ n → jn (split s [32]) = s ∧ ∀ w ∈ split s [32], (32 : UInt8) ∉ w
  | 0, s, h => by
    have : s = [] := List.eq_nil_of_length_eq_zero (by omega)
    subst this
    rw [split_one (by simp)]
    exact ⟨rfl, by simp⟩
  | n + 1, s, h => by
    rcases first32 s with h1 | ⟨a, t, h1, rfl⟩
    · rw [split_one h1]
      exact ⟨rfl, by simpa using h1⟩
    · rw [split_cons h1]
      have := split_both n t (by simp at h; omega)
      refine ⟨by rw [jn_cons (split_ne t), this.1], fun w hw => ?_⟩
      rcases List.mem_cons.1 hw with rfl | hw
      · exact h1
      · exact this.2 w hw
theorem jn_split (s : List UInt8) : jn (split s [32]) = s := (split_both _ s (Nat.le_refl _)).1
def numGoR (most : Nat) : Nat → List UInt8 → Option Nat
  | x, [] => some x
  | x, c :: r => if dig c = false then none else if (most - (c.toNat - 48)) / 10 < x then none else numGoR most (10 * x + (c.toNat - 48)) r
def numW (s : List UInt8) (most : Nat) : Option Nat := match numGoR most 0 s with
  | some x => if s ≠ [] ∧ (s.head? ≠ some 48 ∨ s.length = 1) then some x else none
  | none => none
theorem numGoR_iff {most : Nat} (hm : 9 ≤ most) : ∀ (l : List UInt8) (x v : Nat), x ≤ most → (numGoR most x l = some v ↔ (∀ c ∈ l, dig c = true) ∧ valF x l = v ∧ v ≤ most)
  | [], x, v, hx => by
    simp only [numGoR, Option.some.injEq, valF_nil]
    exact ⟨fun h => ⟨by simp, h, by omega⟩, fun h => h.2.1⟩
  | c :: r, x, v, hx => by
    rw [numGoR, valF_cons]
    by_cases hd : dig c = true
    · have hd' := dig_iff.1 hd
      rw [if_neg (by rw [hd]; simp)]
      have hge := valF_ge r (x * 10 + (c.toNat - 48))
      by_cases ho : (most - (c.toNat - 48)) / 10 < x
      · rw [if_pos ho]
        refine ⟨fun h => (by cases h), fun ⟨_, h2, h3⟩ => ?_⟩
        omega
      · rw [if_neg ho, Nat.mul_comm 10 x, numGoR_iff hm r _ v (by omega)]
        refine ⟨fun ⟨h1, h2, h3⟩ => ⟨fun q hq => ?_, h2, h3⟩, fun ⟨h1, h2, h3⟩ => ⟨fun q hq => h1 q (List.mem_cons_of_mem _ hq), h2, h3⟩⟩
        rcases List.mem_cons.1 hq with rfl | hq
        · exact hd
        · exact h1 q hq
    · rw [if_pos (by simpa using hd)]
      refine ⟨fun h => (by cases h), fun ⟨h1, _⟩ => absurd (h1 c (by simp)) hd⟩
theorem numW_iff {most : Nat} (hm : 9 ≤ most) {s : List UInt8} {v : Nat} : numW s most = some v ↔ s = decDigits v ∧ v ≤ most := by
  unfold numW
  constructor
  · intro h
    split at h
    · rename_i x hx
      obtain ⟨h1, h2, h3⟩ := (numGoR_iff hm s 0 x (by omega)).1 hx
      split at h
      · rename_i hc
        cases h
        have hC : Canon s := ⟨hc.1, h1, fun h0 => by rcases hc.2 with h4 | h4; · exact absurd h0 h4
                                                     · exact h4⟩
        exact ⟨by rw [← h2, dec_of hC], h3⟩
      · cases h
    · cases h
  · rintro ⟨rfl, h⟩
    have hC := dec_canon v
    rw [(numGoR_iff hm _ 0 v (by omega)).2 ⟨hC.all, dec_val v, h⟩]
    have hcond : decDigits v ≠ [] ∧ ((decDigits v).head? ≠ some 48 ∨ (decDigits v).length = 1) := by
      refine ⟨hC.ne, ?_⟩
      by_cases h0 : (decDigits v).head? = some 48
      · exact .inr (hC.head h0)
      · exact .inl h0
    simp only
    rw [if_pos hcond]
def puV (B : Nat) (l : List UInt8) : Int := match parseUintB B l with
  | .ok n => n
  | .range => (2 : Int) ^ B - 1
  | _ => 0
theorem parseM_dig {M : Nat} (hM : M ≤ 18446744073709551615) (l : List UInt8) : ∀ (a : Nat), (∀ c ∈ l, dig c = true) → valF a l ≤ M → parseUintM M a l = .ok (valF a l) := by
  induction l with
  | nil => intro a _ _; rfl
  | cons c l ih =>
    intro a hd hv
    have hc := dig_iff.1 (hd c (by simp))
    rw [valF_cons] at hv ⊢
    have hge := valF_ge l (a * 10 + (c.toNat - 48))
    rw [parseUintM, if_pos hc, if_neg (by omega), if_neg (by omega)]
    exact ih _ (fun x hx => hd x (List.mem_cons_of_mem _ hx)) hv
theorem puV_dec {B n : Nat} (hB : 2 ^ B - 1 ≤ 18446744073709551615) (h : n ≤ 2 ^ B - 1) : puV B (decDigits n) = n := by
  unfold puV parseUintB
  rw [if_neg (dec_ne n), parseM_dig hB _ 0 (dec_dig n) (by rw [dec_val]; exact h), dec_val]
theorem puV_rng (B : Nat) (l : List UInt8) : 0 ≤ puV B l ∧ puV B l ≤ (2 : Int) ^ B - 1 := by
  have hp : (1 : Nat) ≤ 2 ^ B := Nat.one_le_two_pow
  have e : ((2 ^ B - 1 : Nat) : Int) = (2 : Int) ^ B - 1 := by rw [Int.natCast_sub hp]; simp
  unfold puV parseUintB
  split
  · rename_i n hn
    split at hn
    · cases hn
    · have := parseUintM_le _ _ _ _ (Nat.zero_le _) hn
      omega
  · omega
  · omega
def wClock : List UInt8 := [99, 108, 111, 99, 107]
def wCurrent : List UInt8 := [99, 117, 114, 114, 101, 110, 116]
def wWeight : List UInt8 := [119, 101, 105, 103, 104, 116]
def wGone : List UInt8 := [103, 111, 110, 101]
def wTask : List UInt8 := [116, 97, 115, 107]
def wSpot : List UInt8 := [115, 112, 111, 116]
def wReady : List UInt8 := [114, 101, 97, 100, 121]
def wAsleep : List UInt8 := [97, 115, 108, 101, 101, 112]
def fmt (x : Int) : List UInt8 := decDigits x.toNat
inductive El where
  | ck (a t : Int)
  | cu (a t : Int)
  | wg (a t : Int)
  | gn (x : Int)
  | tk (t : Tk)
  | sp (g c : Int) (p : Sp)
def I64 (x : Int) : Prop := -9223372036854775808 ≤ x ∧ x ≤ 9223372036854775807
def U64 (x : Int) : Prop := 0 ≤ x ∧ x ≤ 18446744073709551615
def U32 (x : Int) : Prop := 0 ≤ x ∧ x ≤ 4294967295
def El.rng : El → Prop
  | .ck a t => I64 a ∧ I64 t
  | .cu a t => I64 a ∧ I64 t
  | .wg a t => I64 a ∧ I64 t
  | .gn x => I64 x
  | .tk t => I64 t.id ∧ I64 t.group ∧ I64 t.weight ∧ I64 t.cpu ∧ U64 t.mask ∧ U64 t.v ∧ U32 t.r
  | .sp g c p => I64 g ∧ I64 c ∧ U64 p.v ∧ U32 p.r ∧ U64 p.floor
def El.ints : El → List Int
  | .ck a t => [a, t]
  | .cu a t => [a, t]
  | .wg a t => [a, t]
  | .gn x => [x]
  | .tk t => [t.id, t.group, t.weight, t.cpu]
  | .sp g c p => [g, c]
def El.plain (e : El) : Prop := ∀ x ∈ e.ints, 0 ≤ x
instance (e : El) : Decidable e.plain := by unfold El.plain; infer_instance
def El.kind : El → Int
  | .ck _ _ => 0
  | .cu _ _ => 1
  | .wg _ _ => 2
  | .gn _ => 3
  | .tk _ => 4
  | .sp _ _ _ => 5
section
variable (mT : Int → List UInt8) (pR : List UInt8 → Int) (rR : List UInt8 → Option Int)
structure MaskOk : Prop where
  no32 : ∀ m, (32 : UInt8) ∉ mT m
  head : ∀ m, (mT m).head? = some 45 → (mT m).length = 1
  pr : ∀ m, U64 m → pR (mT m) = m
  rng : ∀ w, U64 (pR w)
  rr : ∀ w m, rR w = some m ↔ (U64 m ∧ mT m = w)
def El.words : El → List (List UInt8)
  | .ck a t => [wClock, itoa a, itoa t]
  | .cu a t => [wCurrent, itoa a, itoa t]
  | .wg a t => [wWeight, itoa a, itoa t]
  | .gn x => [wGone, itoa x]
  | .tk t => [wTask, itoa t.id, itoa t.group, itoa t.weight, itoa t.cpu, mT t.mask, if t.ready = true then wReady else wAsleep, fmt t.v, fmt t.r]
  | .sp g c p => [wSpot, itoa g, itoa c, fmt p.v, fmt p.r, fmt p.floor]
def nW (ws : List (List UInt8)) (i : Nat) : Int := match ws[i]? with
  | some w => atoiV w
  | none => 0
def uW (B : Nat) (ws : List (List UInt8)) (i : Nat) : Int := match ws[i]? with
  | some w => puV B w
  | none => 0
def gu (ws : List (List UInt8)) : Option El :=
  if ws.headD [] = wClock then some (.ck (nW ws 1) (nW ws 2))
  else if ws.headD [] = wCurrent then some (.cu (nW ws 1) (nW ws 2))
  else if ws.headD [] = wWeight then some (.wg (nW ws 1) (nW ws 2))
  else if ws.headD [] = wGone then some (.gn (nW ws 1))
  else if ws.headD [] = wTask then some (.tk ⟨nW ws 1, nW ws 2, nW ws 3, nW ws 4, if 6 < ws.length then pR (ws.getD 5 []) else 0, if 6 < ws.length then decide (ws.getD 6 [] = wReady) else false, uW 64 ws 7, uW 32 ws 8⟩)
  else if ws.headD [] = wSpot then some (.sp (nW ws 1) (nW ws 2) ⟨uW 64 ws 3, uW 32 ws 4, uW 64 ws 5⟩)
  else none
def pOne (ws : List (List UInt8)) : Option El := match gu pR ws with
  | some e => if e.plain ∧ e.words mT = ws then some e else none
  | none => none
def top63 : Nat := 9223372036854775807
def top64 : Nat := 18446744073709551615
def top32 : Nat := 4294967295
def twoE (f : Int → Int → El) (a b : List UInt8) : Option El := (numW a top63).bind fun (x : Nat) => (numW b top63).map fun (y : Nat) => f (x : Int) (y : Int)
def rOne (ws : List (List UInt8)) : Option El := match ws with
  | [w, a, b] => if w = wClock then twoE .ck a b else if w = wCurrent then twoE .cu a b else if w = wWeight then twoE .wg a b else none
  | [w, a] => if w = wGone then (numW a top63).map fun (x : Nat) => .gn (x : Int) else none
  | [w, a, b, c, d, m, s, v, r] => if w = wTask then (numW a top63).bind fun (a : Nat) => (numW b top63).bind fun (b : Nat) => (numW c top63).bind fun (c : Nat) => (numW d top63).bind fun (d : Nat) => (numW v top64).bind fun (v : Nat) => (numW r top32).bind fun (r : Nat) => (rR m).bind fun (m : Int) =>
      if s = wReady ∨ s = wAsleep then some (.tk ⟨(a : Int), (b : Int), (c : Int), (d : Int), m, decide (s = wReady), (v : Int), (r : Int)⟩) else none
    else none
  | [w, a, b, v, r, f] => if w = wSpot then (numW a top63).bind fun (a : Nat) => (numW b top63).bind fun (b : Nat) => (numW v top64).bind fun (v : Nat) => (numW r top32).bind fun (r : Nat) => (numW f top64).map fun (f : Nat) => .sp (a : Int) (b : Int) ⟨(v : Int), (r : Int), (f : Int)⟩ else none
  | _ => none
variable {mT pR rR}
theorem numW_itoa {x : Int} (h0 : 0 ≤ x) (h : I64 x) : numW (itoa x) top63 = some x.toNat := by
  have e : ((x.toNat : Nat) : Int) = x := by omega
  have e2 : itoa x = decDigits x.toNat := by rw [← itoa_nat, e]
  rw [e2, (numW_iff (by decide)).2 ⟨rfl, by unfold top63; have := h.2; omega⟩]
theorem numW_fmt {x : Int} (h : U64 x) : numW (fmt x) top64 = some x.toNat := (numW_iff (by decide)).2 ⟨rfl, by unfold top64; have := h.2; omega⟩
theorem numW_fmt32 {x : Int} (h : U32 x) : numW (fmt x) top32 = some x.toNat := (numW_iff (by decide)).2 ⟨rfl, by unfold top32; have := h.2; omega⟩
theorem numW_is {a : List UInt8} {v : Nat} (h : numW a top63 = some v) : itoa (v : Int) = a ∧ I64 (v : Int) := by
  obtain ⟨rfl, h2⟩ := (numW_iff (by decide)).1 h
  exact ⟨itoa_nat v, by unfold I64; unfold top63 at h2; omega⟩
theorem numW_is64 {a : List UInt8} {v : Nat} (h : numW a top64 = some v) : fmt (v : Int) = a ∧ U64 (v : Int) := by
  obtain ⟨rfl, h2⟩ := (numW_iff (by decide)).1 h
  exact ⟨by simp [fmt], by unfold U64; unfold top64 at h2; omega⟩
theorem numW_is32 {a : List UInt8} {v : Nat} (h : numW a top32 = some v) : fmt (v : Int) = a ∧ U32 (v : Int) := by
  obtain ⟨rfl, h2⟩ := (numW_iff (by decide)).1 h
  exact ⟨by simp [fmt], by unfold U32; unfold top32 at h2; omega⟩
theorem atoiV_itoa {x : Int} (h : I64 x) : atoiV (itoa x) = x := by unfold atoiV; rw [atoi_itoa x h.1 h.2]
theorem puV_fmt {x : Int} (h : U64 x) : puV 64 (fmt x) = x := by
  have := h.1; have := h.2
  rw [fmt, puV_dec (by decide) (by rw [show (2 : Nat) ^ 64 - 1 = 18446744073709551615 by decide]; omega)]; omega
theorem puV_fmt32 {x : Int} (h : U32 x) : puV 32 (fmt x) = x := by
  have := h.1; have := h.2
  rw [fmt, puV_dec (by decide) (by rw [show (2 : Nat) ^ 32 - 1 = 4294967295 by decide]; omega)]; omega
theorem gu_words (M : MaskOk mT pR rR) {e : El} (h : e.rng) : gu pR (e.words mT) = some e := by
  cases e with
  | ck a t => simp [gu, El.words, nW, atoiV_itoa h.1, atoiV_itoa h.2]
  | cu a t => simp [gu, El.words, nW, atoiV_itoa h.1, atoiV_itoa h.2, wClock, wCurrent]
  | wg a t => simp [gu, El.words, nW, atoiV_itoa h.1, atoiV_itoa h.2, wClock, wCurrent, wWeight]
  | gn x => have h : I64 x := h; simp [gu, El.words, nW, atoiV_itoa h, wClock, wCurrent, wWeight, wGone]
  | tk t =>
    obtain ⟨h1, h2, h3, h4, h5, h6, h7⟩ := h
    obtain ⟨i, g, w, c, m, rd, v, r⟩ := t
    simp only at h1 h2 h3 h4 h5 h6 h7
    cases rd <;> simp [gu, El.words, nW, uW, atoiV_itoa h1, atoiV_itoa h2, atoiV_itoa h3, atoiV_itoa h4, M.pr m h5, puV_fmt h6, puV_fmt32 h7, wClock, wCurrent, wWeight, wGone, wTask, wReady, wAsleep]
  | sp g c p =>
    obtain ⟨h1, h2, h3, h4, h5⟩ := h
    obtain ⟨v, r, f⟩ := p
    simp only at h3 h4 h5
    simp [gu, El.words, nW, uW, atoiV_itoa h1, atoiV_itoa h2, puV_fmt h3, puV_fmt32 h4, puV_fmt h5, wClock, wCurrent, wWeight, wGone, wTask, wSpot]
theorem nW_rng (ws : List (List UInt8)) (i : Nat) : I64 (nW ws i) := by
  unfold nW; split
  · exact atoiV_bounds _
  · exact ⟨by omega, by omega⟩
theorem uW_rng (ws : List (List UInt8)) (i : Nat) : U64 (uW 64 ws i) := by
  unfold uW; split
  · have := puV_rng 64 ‹_›; have e : (2 : Int) ^ 64 - 1 = 18446744073709551615 := by decide
    exact ⟨this.1, by omega⟩
  · exact ⟨by omega, by omega⟩
theorem uW_rng32 (ws : List (List UInt8)) (i : Nat) : U32 (uW 32 ws i) := by
  unfold uW; split
  · have := puV_rng 32 ‹_›; have e : (2 : Int) ^ 32 - 1 = 4294967295 := by decide
    exact ⟨this.1, by omega⟩
  · exact ⟨by omega, by omega⟩
theorem gu_rng (M : MaskOk mT pR rR) {ws : List (List UInt8)} {e : El} (h : gu pR ws = some e) : e.rng := by
  unfold gu at h
  repeat' split at h
  all_goals first | (cases h; done) | (simp only [Option.some.injEq] at h; subst h)
  all_goals simp only [El.rng, nW_rng, uW_rng, uW_rng32, true_and, and_true, and_self]
  all_goals first | exact M.rng _ | exact ⟨by omega, by omega⟩
theorem rOne_words (M : MaskOk mT pR rR) {e : El} (h : e.rng) (hp : e.plain) : rOne rR (e.words mT) = some e := by
  cases e with
  | ck a t => have p1 := hp a (by simp [El.ints]); have p2 := hp t (by simp [El.ints]); simp [rOne, El.words, twoE, numW_itoa p1 h.1, numW_itoa p2 h.2, Int.max_eq_left p1, Int.max_eq_left p2]
  | cu a t => have p1 := hp a (by simp [El.ints]); have p2 := hp t (by simp [El.ints]); simp [rOne, El.words, twoE, numW_itoa p1 h.1, numW_itoa p2 h.2, Int.max_eq_left p1, Int.max_eq_left p2, wClock, wCurrent]
  | wg a t => have p1 := hp a (by simp [El.ints]); have p2 := hp t (by simp [El.ints]); simp [rOne, El.words, twoE, numW_itoa p1 h.1, numW_itoa p2 h.2, Int.max_eq_left p1, Int.max_eq_left p2, wClock, wCurrent, wWeight]
  | gn x => have h : I64 x := h; have p1 := hp x (by simp [El.ints]); simp [rOne, El.words, numW_itoa p1 h, Int.max_eq_left p1]
  | tk t =>
    obtain ⟨h1, h2, h3, h4, h5, h6, h7⟩ := h
    have p1 := hp t.id (by simp [El.ints]); have p2 := hp t.group (by simp [El.ints]); have p3 := hp t.weight (by simp [El.ints]); have p4 := hp t.cpu (by simp [El.ints])
    obtain ⟨i, g, w, c, m, rd, v, r⟩ := t
    simp only at h1 h2 h3 h4 h5 h6 h7 p1 p2 p3 p4
    have hm := (M.rr (mT m) m).2 ⟨h5, rfl⟩
    cases rd <;> simp [rOne, El.words, numW_itoa p1 h1, numW_itoa p2 h2, numW_itoa p3 h3, numW_itoa p4 h4, hm, numW_fmt h6, numW_fmt32 h7, Int.max_eq_left p1, Int.max_eq_left p2, Int.max_eq_left p3, Int.max_eq_left p4, Int.max_eq_left h6.1, Int.max_eq_left h7.1, wReady, wAsleep]
  | sp g c p =>
    obtain ⟨h1, h2, h3, h4, h5⟩ := h
    have p1 := hp g (by simp [El.ints]); have p2 := hp c (by simp [El.ints])
    obtain ⟨v, r, f⟩ := p
    simp only at h3 h4 h5
    simp [rOne, El.words, numW_itoa p1 h1, numW_itoa p2 h2, numW_fmt h3, numW_fmt32 h4, numW_fmt h5, Int.max_eq_left p1, Int.max_eq_left p2, Int.max_eq_left h3.1, Int.max_eq_left h4.1, Int.max_eq_left h5.1]
theorem twoE_is {f : Int → Int → El} {a b : List UInt8} {e : El} (h : twoE f a b = some e) : ∃ x y : Nat, e = f x y ∧ itoa (x : Int) = a ∧ itoa (y : Int) = b ∧ I64 (x : Int) ∧ I64 (y : Int) := by
  simp only [twoE, Option.bind_eq_some_iff, Option.map_eq_some_iff] at h
  obtain ⟨x, hx, y, hy, rfl⟩ := h
  obtain ⟨q1, q2⟩ := numW_is hx
  obtain ⟨q3, q4⟩ := numW_is hy
  exact ⟨x, y, rfl, q1, q3, q2, q4⟩
theorem rOne_is (M : MaskOk mT pR rR) {ws : List (List UInt8)} {e : El} (h : rOne rR ws = some e) : e.rng ∧ e.plain ∧ e.words mT = ws := by
  unfold rOne at h
  split at h
  · rename_i w a b
    split at h
    · obtain ⟨x, y, rfl, rfl, rfl, h3, h4⟩ := twoE_is h
      subst w; exact ⟨⟨h3, h4⟩, by simp [El.plain, El.ints], rfl⟩
    · split at h
      · obtain ⟨x, y, rfl, rfl, rfl, h3, h4⟩ := twoE_is h
        subst w; exact ⟨⟨h3, h4⟩, by simp [El.plain, El.ints], rfl⟩
      · split at h
        · obtain ⟨x, y, rfl, rfl, rfl, h3, h4⟩ := twoE_is h
          subst w; exact ⟨⟨h3, h4⟩, by simp [El.plain, El.ints], rfl⟩
        · cases h
  · rename_i w a
    split at h
    · simp only [Option.map_eq_some_iff] at h
      obtain ⟨x, hx, rfl⟩ := h
      obtain ⟨rfl, q2⟩ := numW_is hx
      subst w; exact ⟨q2, by simp [El.plain, El.ints], rfl⟩
    · cases h
  · rename_i w a b c d m s v r
    split at h
    · simp only [Option.bind_eq_some_iff] at h
      obtain ⟨a', ha, b', hb, c', hc, d', hd, v', hv, r', hr, m', hm, h⟩ := h
      obtain ⟨rfl, a2⟩ := numW_is ha
      obtain ⟨rfl, b2⟩ := numW_is hb
      obtain ⟨rfl, c2⟩ := numW_is hc
      obtain ⟨rfl, d2⟩ := numW_is hd
      obtain ⟨rfl, v2⟩ := numW_is64 hv
      obtain ⟨rfl, r2⟩ := numW_is32 hr
      obtain ⟨m2, rfl⟩ := (M.rr _ _).1 hm
      subst w
      split at h
      · rename_i hs
        cases h
        refine ⟨⟨a2, b2, c2, d2, m2, v2, r2⟩, by simp [El.plain, El.ints], ?_⟩
        rcases hs with rfl | rfl <;> simp [El.words, wReady, wAsleep]
      · cases h
    · cases h
  · rename_i w a b v r f
    split at h
    · simp only [Option.bind_eq_some_iff, Option.map_eq_some_iff] at h
      obtain ⟨a', ha, b', hb, v', hv, r', hr, f', hf, rfl⟩ := h
      obtain ⟨rfl, a2⟩ := numW_is ha
      obtain ⟨rfl, b2⟩ := numW_is hb
      obtain ⟨rfl, v2⟩ := numW_is64 hv
      obtain ⟨rfl, r2⟩ := numW_is32 hr
      obtain ⟨rfl, f2⟩ := numW_is64 hf
      subst w
      exact ⟨⟨a2, b2, v2, r2, f2⟩, by simp [El.plain, El.ints], rfl⟩
    · cases h
  · cases h
theorem one_eq (M : MaskOk mT pR rR) (ws : List (List UInt8)) : pOne mT pR ws = rOne rR ws := by
  cases hr : rOne rR ws with
  | some e =>
    obtain ⟨h1, h2, rfl⟩ := rOne_is M hr
    unfold pOne
    rw [gu_words M h1]
    show (if e.plain ∧ e.words mT = e.words mT then some e else none) = some e
    rw [if_pos ⟨h2, rfl⟩]
  | none =>
    unfold pOne
    cases hg : gu pR ws with
    | none => rfl
    | some e =>
      simp only
      split
      · rename_i h
        have := rOne_words M (gu_rng M hg) h.1
        rw [h.2, hr] at this; cases this
      · rfl
end
end Go.Proofs.T
end
section
namespace Go.Proofs.T
open Go Go.AM Go.Lib
set_option maxRecDepth 20000
def ofBits (b : Nat → Bool) : Nat → Nat
  | 0 => 0
  | n + 1 => ofBits b n + (if b n = true then 2 ^ n else 0)
theorem ofBits_lt (b : Nat → Bool) : ∀ n, ofBits b n < 2 ^ n
  | 0 => by simp [ofBits]
  | n + 1 => by have := ofBits_lt b n; rw [ofBits, Nat.pow_succ]; split <;> omega
theorem ofBits_bit (b : Nat → Bool) : ∀ n i, (ofBits b n).testBit i = (decide (i < n) && b i)
  | 0, i => by simp [ofBits]
  | n + 1, i => by
    have hl := ofBits_lt b n
    rw [ofBits]
    split
    · rename_i hb
      rw [Nat.add_comm]
      by_cases hi : i = n
      · subst hi
        rw [Nat.testBit_two_pow_add_eq, Nat.testBit_lt_two_pow hl]; simp [hb]
      · by_cases h2 : i < n
        · rw [Nat.testBit_two_pow_add_gt h2, ofBits_bit b n i]; simp [h2]; omega
        · have h3 : 2 ^ n + ofBits b n < 2 ^ i := by
            have : 2 ^ (n + 1) ≤ 2 ^ i := Nat.pow_le_pow_right (by omega) (by omega)
            rw [Nat.pow_succ] at this; omega
          rw [Nat.testBit_lt_two_pow h3]; simp; omega
    · rename_i hb
      rw [Nat.add_zero, ofBits_bit b n i]
      by_cases hi : i = n
      · subst hi; simp [hb]
      · by_cases h2 : i < n
        · simp [h2]; omega
        · simp [h2]; omega
theorem ofBits_of {m : Nat} (h : m < 2 ^ 64) : ofBits (fun c => m.testBit c) 64 = m := by
  apply Nat.eq_of_testBit_eq
  intro i
  rw [ofBits_bit]
  by_cases hi : i < 64
  · simp [hi]
  · have : m.testBit i = false := Nat.testBit_lt_two_pow (Nat.lt_of_lt_of_le h (Nat.pow_le_pow_right (by omega) (by omega)))
    simp [hi, this]
theorem ofBits_congr {b c : Nat → Bool} : ∀ {n : Nat}, (∀ i, i < n → b i = c i) → ofBits b n = ofBits c n
  | 0, _ => rfl
  | n + 1, h => by rw [ofBits, ofBits, ofBits_congr (fun i hi => h i (by omega)), h n (by omega)]
def mBit (m : Int) (c : Nat) : Bool := m.toNat.testBit c
def mRuns (m : Int) : List (Nat × Nat) := runsB (mBit m) 64 0
def mT (m : Int) : List UInt8 := maskT (mRuns m)
def mG (w : List UInt8) : Int := (ofBits (covers (if w = [45] then [] else guessG w.length w)) 64 : Nat)
def mP (w : List UInt8) : Int := if mT (mG w) = w then mG w else 0
def mR (w : List UInt8) : Option Int := if w = [45] then some 0 else (parseR w.length 0 w).map fun l => ((ofBits (covers l) 64 : Nat) : Int)
theorem mBit_stop {m : Int} (h : U64 m) : Stop64 (mBit m) := fun c hc => by
  unfold mBit
  refine Nat.testBit_lt_two_pow (Nat.lt_of_lt_of_le (m := 2 ^ 64) (by have := h.2; have := h.1; omega) (Nat.pow_le_pow_right (by omega) hc))
theorem mRuns_VR {m : Int} (h : U64 m) : VR 0 (mRuns m) := runsB_VR (mBit_stop h) 64 0
theorem mRuns_covers {m : Int} (h : U64 m) (d : Nat) : covers (mRuns m) d = mBit m d := runsB_covers (mBit_stop h) 64 0 (by omega) d (by omega)
theorem ofB_rng (b : Nat → Bool) : U64 ((ofBits b 64 : Nat) : Int) := by
  have := ofBits_lt b 64
  have e : (2 : Nat) ^ 64 = 18446744073709551616 := by decide
  exact ⟨by omega, by omega⟩
theorem ofRuns {m : Int} (h : U64 m) : ((ofBits (covers (mRuns m)) 64 : Nat) : Int) = m := by
  have h1 : m.toNat < 2 ^ 64 := by have := h.2; have := h.1; omega
  rw [ofBits_congr (c := fun c => m.toNat.testBit c) (fun i _ => mRuns_covers h i), ofBits_of h1]
  have := h.1; omega
theorem runs_of {l : List (Nat × Nat)} (h : VR 0 l) : mRuns ((ofBits (covers l) 64 : Nat) : Int) = l := by
  refine runsB_of l 0 _ 64 h (mBit_stop (ofB_rng _)) (fun d _ => ?_) (by omega)
  unfold mBit
  rw [Int.toNat_natCast, ofBits_bit]
  by_cases hd : d < 64
  · simp [hd]
  · rw [covers_stop h d (by omega)]; simp
theorem mRuns_zero : mRuns 0 = [] := runs_of (l := []) trivial
theorem mG_T {m : Int} (h : U64 m) : mG (mT m) = m := by
  unfold mG mT maskT
  by_cases hl : mRuns m = []
  · rw [if_pos hl, if_pos rfl]
    have := ofRuns h
    rw [hl] at this
    exact this
  · rw [if_neg hl, if_neg encR_ne45, guess_enc _ 0 _ (mRuns_VR h) (encR_len _)]
    exact ofRuns h
theorem mT_is {w : List UInt8} {m : Int} (h : U64 m) : mT m = w ↔ (w = [45] ∧ m = 0) ∨ (mRuns m ≠ [] ∧ encR (mRuns m) = w) := by
  unfold mT maskT
  by_cases hl : mRuns m = []
  · rw [if_pos hl]
    have h0 : m = 0 := by
      have := ofRuns h
      rw [hl] at this
      rw [← this]; rfl
    exact ⟨fun h1 => .inl ⟨h1.symm, h0⟩, fun h1 => h1.elim (fun h2 => h2.1.symm) fun h2 => absurd hl h2.1⟩
  · rw [if_neg hl]
    refine ⟨fun h1 => .inr ⟨hl, h1⟩, fun h1 => h1.elim (fun h2 => ?_) fun h2 => h2.2⟩
    obtain ⟨_, rfl⟩ := h2
    exact absurd mRuns_zero hl
theorem encR_dig {l : List (Nat × Nat)} : ∀ c ∈ encR l, c ≠ 32 := by
  have h1 : ∀ x : Nat × Nat, (32 : UInt8) ∉ runT x := fun x h => by
    unfold runT at h
    rcases List.mem_append.1 h with h | h
    · exact dec_no32 _ h
    · split at h
      · rcases List.mem_cons.1 h with h | h
        · exact absurd h (by decide)
        · exact dec_no32 _ h
      · cases h
  induction l with
  | nil => intro c hc; simp [encR] at hc
  | cons x r ih =>
    intro c hc he
    subst he
    cases r with
    | nil => exact h1 x hc
    | cons y r =>
      rw [encR] at hc
      rcases List.mem_append.1 hc with h | h
      · exact h1 x h
      · rcases List.mem_cons.1 h with h | h
        · exact absurd h (by decide)
        · exact ih _ h rfl
theorem encR_head {l : List (Nat × Nat)} : (encR l).head? ≠ some 45 := by
  have hd : ∀ (x : Nat × Nat) (t : List UInt8), (runT x ++ t).head? ≠ some 45 := fun x t h => by
    unfold runT at h
    cases e : decDigits x.1 with
    | nil => exact dec_ne _ e
    | cons c q =>
      rw [e] at h
      simp only [List.cons_append, List.head?_cons, Option.some.injEq] at h
      have := dec_dig x.1 c (by rw [e]; simp)
      rw [h] at this; revert this; decide
  cases l with
  | nil => simp [encR]
  | cons x r => cases r with
    | nil => have := hd x []; rwa [List.append_nil] at this
    | cons y r => exact hd x _
theorem maskOk : MaskOk mT mP mR where
  no32 m h := by
    unfold mT maskT at h
    split at h
    · exact absurd h (by decide)
    · exact encR_dig _ h rfl
  head m h := by
    unfold mT maskT at h ⊢
    split
    · rfl
    · rename_i hl
      rw [if_neg hl] at h
      exact absurd h encR_head
  pr m h := by unfold mP; rw [mG_T h, if_pos rfl]
  rng w := by
    unfold mP
    split
    · exact ofB_rng _
    · exact ⟨by omega, by omega⟩
  rr w m := by
    unfold mR
    split
    · rename_i hw
      subst hw
      constructor
      · intro h; cases h
        exact ⟨⟨by omega, by omega⟩, by unfold mT maskT; rw [if_pos mRuns_zero]⟩
      · rintro ⟨h1, h2⟩
        rcases (mT_is h1).1 h2 with h3 | h3
        · rw [h3.2]
        · exact absurd h3.2 encR_ne45
    · rename_i hw
      rw [Option.map_eq_some_iff]
      constructor
      · rintro ⟨l, h1, rfl⟩
        obtain ⟨h2, h3, h4⟩ := parse_is _ _ _ _ h1
        refine ⟨ofB_rng _, (mT_is (ofB_rng _)).2 (.inr ?_)⟩
        rw [runs_of h3]; exact ⟨h2, h4⟩
      · rintro ⟨h1, h2⟩
        rcases (mT_is h1).1 h2 with h3 | h3
        · exact absurd h3.1 hw
        · refine ⟨mRuns m, ?_, ofRuns h1⟩
          rw [← h3.2]
          exact parse_enc _ 0 _ h3.1 (mRuns_VR h1) (encR_len _)
end Go.Proofs.T
end
section
namespace Go.Proofs.T
open Go Go.AM Go.Lib
set_option maxRecDepth 20000
def negW (w : List UInt8) : Bool := decide (1 < w.length) && decide (w.head? = some 45)
theorem dec_head45 (n : Nat) : (decDigits n).head? ≠ some 45 := fun h => by
  cases e : decDigits n with
  | nil => exact dec_ne _ e
  | cons c q =>
    rw [e] at h
    simp only [List.head?_cons, Option.some.injEq] at h
    have := dec_dig n c (by rw [e]; simp)
    rw [h] at this; revert this; decide
theorem negW_dec (n : Nat) : negW (decDigits n) = false := by unfold negW; rw [decide_eq_false (dec_head45 n), Bool.and_false]
theorem negW_fmt (x : Int) : negW (fmt x) = false := negW_dec _
theorem negW_itoa (x : Int) : negW (itoa x) = decide (x < 0) := by
  by_cases h : x < 0
  · have h2 : 0 < (decDigits x.natAbs).length := List.length_pos_iff.2 (dec_ne _)
    unfold itoa
    rw [if_pos h]
    simp only [negW, List.length_cons, List.head?_cons, decide_true, Bool.and_true]
    rw [decide_eq_true h, decide_eq_true (by omega)]
  · unfold itoa; rw [if_neg h, negW_dec, decide_eq_false h]
theorem negW_mask (m : Int) : negW (mT m) = false := by
  unfold negW
  by_cases h : (mT m).head? = some 45
  · rw [maskOk.head m h]; rfl
  · rw [decide_eq_false h, Bool.and_false]
def wds (e : El) : List (List UInt8) := e.words mT
def lnT (e : El) : List UInt8 := jn (wds e)
theorem wds_neg (e : El) : (wds e).any negW = !(decide e.plain) := by
  have hS : ∀ b : Bool, negW (if b = true then wReady else wAsleep) = false := fun b => by cases b <;> decide
  have c0 : negW wClock = false := by decide
  have c1 : negW wCurrent = false := by decide
  have c2 : negW wWeight = false := by decide
  have c3 : negW wGone = false := by decide
  have c4 : negW wTask = false := by decide
  have c5 : negW wSpot = false := by decide
  rw [Bool.eq_iff_iff]
  cases e <;> simp only [wds, El.words, El.plain, El.ints, List.any_cons, List.any_nil, negW_itoa, negW_fmt, negW_mask, hS, c0, c1, c2, c3, c4, c5, Bool.false_or, Bool.or_false, Bool.or_eq_true, decide_eq_true_eq, Bool.not_eq_true', decide_eq_false_iff_not, List.forall_mem_cons, List.not_mem_nil, false_implies, implies_true, and_true] <;> omega
theorem itoa_no32' (x : Int) : (32 : UInt8) ∉ itoa x := by
  unfold itoa
  split
  · intro h
    rcases List.mem_cons.1 h with h | h
    · exact absurd h (by decide)
    · exact dec_no32 _ h
  · exact dec_no32 _
theorem wds_no32 (e : El) : ∀ w ∈ wds e, (32 : UInt8) ∉ w := by
  have hS : ∀ b : Bool, (32 : UInt8) ∉ (if b = true then wReady else wAsleep) := fun b => by cases b <;> decide
  have hf : ∀ x, (32 : UInt8) ∉ fmt x := fun x => dec_no32 _
  have c0 : (32 : UInt8) ∉ wClock := by decide
  have c1 : (32 : UInt8) ∉ wCurrent := by decide
  have c2 : (32 : UInt8) ∉ wWeight := by decide
  have c3 : (32 : UInt8) ∉ wGone := by decide
  have c4 : (32 : UInt8) ∉ wTask := by decide
  have c5 : (32 : UInt8) ∉ wSpot := by decide
  cases e <;> simp only [wds, El.words, List.forall_mem_cons, List.not_mem_nil, false_implies, implies_true, and_true, itoa_no32', hf, maskOk.no32, hS, c0, c1, c2, c3, c4, c5, not_false_eq_true, and_self]
theorem wds_ne (e : El) : wds e ≠ [] := by cases e <;> simp [wds, El.words]
theorem split_lnT (e : El) : split (lnT e) [32] = wds e := split_jn (wds_ne e) (wds_no32 e)
def rdL (s : List UInt8) : Option El := pOne mT mP (split s [32])
theorem rdL_guess (s : List UInt8) : rdL s = match gu mP (split s [32]) with
    | some e => if e.plain ∧ lnT e = s then some e else none
    | none => none := by
  unfold rdL pOne
  cases gu mP (split s [32]) with
  | none => rfl
  | some e =>
    have : (e.words mT = split s [32]) ↔ lnT e = s := by
      constructor
      · intro h; rw [lnT, wds, h, jn_split]
      · rintro rfl; exact (split_lnT e).symm
    simp only [this]
theorem rdL_ref (s : List UInt8) : rdL s = rOne mR (split s [32]) := one_eq maskOk _
theorem runT_len {x : Nat × Nat} (h1 : x.1 ≤ x.2) (h2 : x.2 < 64) : (runT x).length ≤ 5 := by
  have a := dec_len2 (n := x.1) (by omega)
  have b := dec_len2 h2
  unfold runT
  rw [List.length_append]
  split
  · simp only [List.length_cons]; omega
  · simp only [List.length_nil]; omega
theorem encR_short : ∀ (l : List (Nat × Nat)) (a : Nat), VR a l → (encR l).length ≤ 6 * (66 - a)
  | [], a, _ => by simp [encR]
  | [x], a, ⟨h1, h2, h3, _⟩ => by
    have := runT_len (x := x) h2 h3
    rw [encR]
    have : a ≤ 63 := by omega
    omega
  | x :: y :: r, a, ⟨h1, h2, h3, h4⟩ => by
    have e1 := runT_len (x := x) h2 h3
    have e2 := encR_short (y :: r) _ h4
    rw [encR, List.length_append, List.length_cons]
    omega
theorem mT_len {m : Int} (h : U64 m) : (mT m).length ≤ 400 := by
  unfold mT maskT
  split
  · simp
  · have := encR_short _ 0 (mRuns_VR h); omega
theorem fmt_len {x : Int} (h : U64 x) : (fmt x).length ≤ 20 := by
  have := h.1; have := h.2
  exact dec_len 19 _ (by omega)
theorem fmt_len32 {x : Int} (h : U32 x) : (fmt x).length ≤ 20 := by
  have := h.1; have := h.2
  exact dec_len 19 _ (by omega)
theorem itoa_len' {x : Int} (h : I64 x) : (itoa x).length ≤ 20 := itoa_len x h.1 h.2
theorem lnT_len {e : El} (h : e.rng) : (lnT e).length ≤ 1000 := by
  have c0 : wClock.length = 5 := rfl
  have c1 : wCurrent.length = 7 := rfl
  have c2 : wWeight.length = 6 := rfl
  have c3 : wGone.length = 4 := rfl
  have c4 : wTask.length = 4 := rfl
  have c5 : wSpot.length = 4 := rfl
  have hS : ∀ b : Bool, (if b = true then wReady else wAsleep).length ≤ 6 := fun b => by cases b <;> decide
  cases e with
  | ck a t => have := itoa_len' h.1; have := itoa_len' h.2; simp only [lnT, wds, El.words, jn, List.length_append, List.length_cons]; omega
  | cu a t => have := itoa_len' h.1; have := itoa_len' h.2; simp only [lnT, wds, El.words, jn, List.length_append, List.length_cons]; omega
  | wg a t => have := itoa_len' h.1; have := itoa_len' h.2; simp only [lnT, wds, El.words, jn, List.length_append, List.length_cons]; omega
  | gn x => have h : I64 x := h; have := itoa_len' h; simp only [lnT, wds, El.words, jn, List.length_append, List.length_cons]; omega
  | tk t =>
    obtain ⟨h1, h2, h3, h4, h5, h6, h7⟩ := h
    have := itoa_len' h1; have := itoa_len' h2; have := itoa_len' h3; have := itoa_len' h4; have := mT_len h5; have := fmt_len h6; have := fmt_len32 h7; have := hS t.ready
    simp only [lnT, wds, El.words, jn, List.length_append, List.length_cons]; omega
  | sp g c p =>
    obtain ⟨h1, h2, h3, h4, h5⟩ := h
    have := itoa_len' h1; have := itoa_len' h2; have := fmt_len h3; have := fmt_len32 h4; have := fmt_len h5
    simp only [lnT, wds, El.words, jn, List.length_append, List.length_cons]; omega
def El.ck? : El → Option (Int × Int) | .ck a t => some (a, t) | _ => none
def El.cu? : El → Option (Int × Int) | .cu a t => some (a, t) | _ => none
def El.wg? : El → Option (Int × Int) | .wg a t => some (a, t) | _ => none
def El.gn? : El → Option Int | .gn x => some x | _ => none
def El.tk? : El → Option Tk | .tk t => some t | _ => none
def El.sp? : El → Option (Int × Int × Sp) | .sp g c p => some (g, c, p) | _ => none
def dlE (l : List El) : Dl := ⟨l.filterMap El.ck?, l.filterMap El.cu?, l.filterMap El.wg?, l.filterMap El.gn?, l.filterMap El.tk?, l.filterMap El.sp?⟩
def rdLs : Nat → Int → List El → List (List UInt8) → List El × Int × Int
  | i, last, acc, [] => (acc, -1, 0)
  | i, last, acc, s :: r => match rdL s with
    | some e => if e.kind < last then ([], (i : Int), 353) else rdLs (i + 1) e.kind (acc ++ [e]) r
    | none => ([], (i : Int), 353)
end Go.Proofs.T
end
section
namespace Go.Proofs.T
open Go Go.AM Go.Lib
set_option maxRecDepth 20000
theorem wrap_u64n {n : Nat} (h : n < 2 ^ 64) : IntKind.u64.wrap (n : Int) = n := by
  have e : (2 : Nat) ^ 64 = 18446744073709551616 := by decide
  simp [IntKind.wrap, IntKind.bits, IntKind.signed]; omega
theorem or_bit (b : Nat → Bool) (c : Nat) (hc : c < 64) : IntKind.u64.wrap ↑(BitVec.ofInt IntKind.u64.bits ((ofBits b 64 : Nat) : Int) ||| BitVec.ofInt IntKind.u64.bits (IntKind.u64.wrap (1 * 2 ^ min c 64))).toNat = ((ofBits (fun i => b i || decide (i = c)) 64 : Nat) : Int) := by
  have h1 : (1 * 2 ^ min c 64 : Int) = ((2 ^ c : Nat) : Int) := by rw [show min c 64 = c by omega]; simp
  have h2 : 2 ^ c < 2 ^ 64 := Nat.pow_lt_pow_right (by omega) hc
  have h3 := ofBits_lt b 64
  have h4 : (BitVec.ofInt IntKind.u64.bits ((ofBits b 64 : Nat) : Int) ||| BitVec.ofInt IntKind.u64.bits ((2 ^ c : Nat) : Int)).toNat = ofBits b 64 ||| 2 ^ c := by
    show (BitVec.ofInt 64 ((ofBits b 64 : Nat) : Int) ||| BitVec.ofInt 64 ((2 ^ c : Nat) : Int)).toNat = _
    rw [BitVec.toNat_or, BitVec.ofInt_natCast, BitVec.ofInt_natCast, BitVec.toNat_ofNat, BitVec.toNat_ofNat, Nat.mod_eq_of_lt h3, Nat.mod_eq_of_lt h2]
  rw [h1, wrap_u64n h2, h4, wrap_u64n (Nat.or_lt_two_pow h3 h2)]
  congr 1
  apply Nat.eq_of_testBit_eq
  intro i
  rw [Nat.testBit_or, ofBits_bit, ofBits_bit, Nat.testBit_two_pow]
  by_cases hi : i < 64
  · simp only [hi, decide_true, Bool.true_and]
    congr 1
    rw [decide_eq_decide]; exact eq_comm
  · have : ¬ c = i := by omega
    simp [hi, this]
theorem ofBits_shift (b : Nat → Bool) : ∀ n, ofBits b (n + 1) = (if b 0 = true then 1 else 0) + 2 * ofBits (fun i => b (i + 1)) n
  | 0 => by simp [ofBits]
  | n + 1 => by
    rw [ofBits, ofBits_shift b n, ofBits, Nat.pow_succ]
    by_cases h : b (n + 1) = true
    · rw [if_pos h, if_pos h]; omega
    · rw [if_neg h, if_neg h]; omega
theorem covers_app (l r : List (Nat × Nat)) (c : Nat) : covers (l ++ r) c = (covers l c || covers r c) := by unfold covers; rw [List.any_append]
theorem covers_one (f t c : Nat) : covers [(f, t)] c = (decide (f ≤ c) && decide (c ≤ t)) := by simp [covers]
theorem stepG_less (s : List UInt8) (h : s ≠ []) : (stepG s).2.length < s.length := by
  unfold stepG
  split
  · have h1 := cut_shorter 45 s h
    have h2 := (cut_le 44 (cut s [45]).2.1).1
    show (cut (cut s [45]).2.1 [44]).2.1.length < _
    omega
  · exact cut_shorter 44 s h
theorem guessG_fuel : ∀ (n : Nat) (s : List UInt8) (f g : Nat), s.length ≤ n → s.length ≤ f → s.length ≤ g → guessG f s = guessG g s
  | n, [], f, g, _, _, _ => by cases f <;> cases g <;> simp [guessG]
  | 0, c :: s, f, g, h, _, _ => by simp at h
  | n + 1, c :: s, 0, g, _, h, _ => by simp at h
  | n + 1, c :: s, f + 1, 0, _, _, h => by simp at h
  | n + 1, c :: s, f + 1, g + 1, h, h1, h2 => by
    have hl := stepG_less (c :: s) (by simp)
    rw [guessG, guessG, if_neg (by simp), if_neg (by simp), guessG_fuel n (stepG (c :: s)).2 f g (by omega) (by omega) (by omega)]
def guessN (s : List UInt8) : List (Nat × Nat) := guessG s.length s
theorem guessN_nil : guessN [] = [] := rfl
theorem guessN_step {s : List UInt8} (h : s ≠ []) : guessN s = (stepG s).1 :: guessN (stepG s).2 := by
  have hl := stepG_less s h
  unfold guessN
  obtain ⟨n, hn⟩ : ∃ n, s.length = n + 1 := ⟨s.length - 1, by omega⟩
  rw [hn, guessG, if_neg h, guessG_fuel n (stepG s).2 n _ (by omega) (by omega) (Nat.le_refl _)]
theorem stepG_lt (s : List UInt8) : (stepG s).1.1 < 64 ∧ (stepG s).1.2 < 64 := by
  unfold stepG
  split
  · exact ⟨numE_lt _, numE_lt _⟩
  · exact ⟨numE_lt _, numE_lt _⟩
theorem encR_snoc : ∀ (l : List (Nat × Nat)) (x : Nat × Nat), encR (l ++ [x]) = if l = [] then runT x else encR l ++ 44 :: runT x
  | [], x => by simp [encR]
  | [y], x => by simp [encR]
  | y :: z :: r, x => by
    have := encR_snoc (z :: r) x
    rw [if_neg (by simp)] at this
    rw [if_neg (by simp), List.cons_append, List.cons_append, encR, ← List.cons_append, this, encR, List.append_assoc, List.cons_append]
theorem runsB_fuel' {b : Nat → Bool} : ∀ (n f g c : Nat), f ≤ n → 64 ≤ c + f → 64 ≤ c + g → runsB b f c = runsB b g c
  | n, 0, 0, c, _, _, _ => rfl
  | n, 0, g + 1, c, _, h, _ => by rw [runsB, runsB, if_neg (by omega)]
  | n, f + 1, 0, c, _, _, h => by rw [runsB, runsB, if_neg (by omega)]
  | 0, f + 1, g + 1, c, h, _, _ => absurd h (by omega)
  | n + 1, f + 1, g + 1, c, h0, h, h' => by
    rw [runsB, runsB]
    have := lastB_ge b 64 c
    rw [runsB_fuel' n f g (lastB b 64 c + 1) (by omega) (by omega) (by omega), runsB_fuel' n f g (c + 1) (by omega) (by omega) (by omega)]
def runsF (b : Nat → Bool) (c : Nat) : List (Nat × Nat) := runsB b 64 c
theorem runsF_end {b : Nat → Bool} {c : Nat} (h : 64 ≤ c) : runsF b c = [] := by unfold runsF; rw [runsB, if_neg (by omega)]
theorem runsF_no {b : Nat → Bool} {c : Nat} (h : c < 64) (hb : b c = false) : runsF b c = runsF b (c + 1) := by
  unfold runsF
  rw [show (64 : Nat) = 63 + 1 from rfl, runsB, if_pos (by omega), if_neg (by rw [hb]; simp)]
  exact runsB_fuel' 63 63 64 (c + 1) (by omega) (by omega) (by omega)
theorem runsF_yes {b : Nat → Bool} {c : Nat} (h : c < 64) (hb : b c = true) : runsF b c = (c, lastB b 64 c) :: runsF b (lastB b 64 c + 1) := by
  have := lastB_ge b 64 c
  unfold runsF
  rw [show (64 : Nat) = 63 + 1 from rfl, runsB, if_pos (by omega), if_pos hb]
  exact congrArg _ (runsB_fuel' 63 63 64 _ (by omega) (by omega) (by omega))
theorem lastB_next {b : Nat → Bool} (hb : Stop64 b) {c : Nat} (h : b (c + 1) = true) : lastB b 64 c = lastB b 64 (c + 1) := by
  have hc : c + 1 < 64 := Nat.lt_of_not_le fun e => by rw [hb _ e] at h; cases h
  rw [show (64 : Nat) = 63 + 1 from rfl, lastB, if_pos h]
  refine (lastB_eq 64 (c + 1) _ (lastB_ge _ _ _) ?_ (fun d h1 h2 => lastB_all 63 (c + 1) d h (by omega) h2) (lastB_end hb 63 (c + 1) (by omega))).symm
  have := lastB_lt hb 63 (c + 1) hc; omega
theorem lastB_here {b : Nat → Bool} {c : Nat} (h : b (c + 1) = false) : lastB b 64 c = c := by
  rw [show (64 : Nat) = 63 + 1 from rfl, lastB, if_neg (by rw [h]; simp)]
theorem set_range {α : Type} (f : Nat → α) (n c : Nat) (v : α) : ((List.range n).map f).set c v = (List.range n).map (fun i => if i = c then v else f i) := by
  apply List.ext_getElem?
  intro i
  rw [List.getElem?_set]
  by_cases hi : i < n
  · by_cases h : c = i
    · subst h; simp [hi]
    · have : ¬ i = c := fun e => h e.symm
      simp [h, hi, this]
  · by_cases h : c = i
    · subst h; simp [hi]
    · simp [h, hi]
end Go.Proofs.T
end
section
namespace Go.Proofs
open Go.Shelf
def Tryz.layJoin_ren : Go.Shelf.Ren := ⟨fun | 156 => 218 | 165 => 259 | 166 => 260 | 169 => 261 | 240 => 291 | 241 => 292 | 276 => 309 | 277 => 310 | n => n, fun | 31 => 37 | 9 => 9 | 3 => 3 | 4 => 4 | 0 => 0 | 20 => 20 | 72 => 310 | 76 => 217 | 70 => 308 | 37 => 238 | 75 => 216 | 127 => 332 | 164 => 347 | 5 => 5 | 80 => 312 | n => n, fun | n => n⟩
theorem Tryz.layJoin : Go.Proofs.Lays.n156 Tryz.prog Tryz.layJoin_ren := {
  mixed := by kernel_rfl
  f156 := Tryz.func218.trans (congrArg some (by kernel_rfl))
  f165 := Tryz.func259.trans (congrArg some (by kernel_rfl))
  f166 := Tryz.func260.trans (congrArg some (by kernel_rfl))
  f169 := Tryz.func261.trans (congrArg some (by kernel_rfl))
  f240 := Tryz.func291.trans (congrArg some (by kernel_rfl))
  f241 := Tryz.func292.trans (congrArg some (by kernel_rfl))
  f276 := Tryz.func309.trans (congrArg some (by kernel_rfl))
  f277 := Tryz.func310.trans (congrArg some (by kernel_rfl))
  t0 := Tryz.underlying0
  a0 := Tryz.isAgg0
  z0 := Tryz.sizeOf0
  v0 := Tryz.zeroValue0
  t3 := Tryz.underlying3
  a3 := Tryz.isAgg3
  z3 := Tryz.sizeOf3
  v3 := Tryz.zeroValue3
  t4 := Tryz.underlying4
  a4 := Tryz.isAgg4
  z4 := Tryz.sizeOf4
  v4 := Tryz.zeroValue4
  t9 := Tryz.underlying9
  a9 := Tryz.isAgg9
  z9 := Tryz.sizeOf9
  v9 := Tryz.zeroValue9
  t20 := Tryz.underlying20
  a20 := Tryz.isAgg20
  z20 := Tryz.sizeOf20
  v20 := Tryz.zeroValue20
  t31 := Tryz.underlying37
  a31 := Tryz.isAgg37
  z31 := Tryz.sizeOf37
  v31 := Tryz.zeroValue37
  t37 := Tryz.underlying238
  a37 := Tryz.isAgg238
  z37 := Tryz.sizeOf238
  v37 := Tryz.zeroValue238
  t70 := Tryz.underlying308
  a70 := Tryz.isAgg308
  z70 := Tryz.sizeOf308
  v70 := Tryz.zeroValue308
  t72 := Tryz.underlying310
  a72 := Tryz.isAgg310
  z72 := Tryz.sizeOf310
  v72 := Tryz.zeroValue310
  t75 := Tryz.underlying216
  a75 := Tryz.isAgg216
  z75 := Tryz.sizeOf216
  v75 := Tryz.zeroValue216
  t76 := Tryz.underlying217
  a76 := Tryz.isAgg217
  z76 := Tryz.sizeOf217
  v76 := Tryz.zeroValue217
  t127 := Tryz.underlying332
  a127 := Tryz.isAgg332
  z127 := Tryz.sizeOf332
  v127 := Tryz.zeroValue332
  t164 := Tryz.underlying347
  a164 := Tryz.isAgg347
  z164 := Tryz.sizeOf347
  v164 := Tryz.zeroValue347 }
end Go.Proofs
end
section
namespace Go.Proofs.T
open Go Go.AM Go.Proofs Go.Lib Go.RowKit Go.Shelf
set_option maxRecDepth 20000
variable {Γ : List (Nat × List AVal)}
theorem layExtra : Builder.Extra Tryz.prog Tryz.layJoin_ren where
  sizeBuilder := by kernel_rfl
  liesBuilder := by kernel_rfl
  t5 := Tryz.underlying5
  a5 := Tryz.isAgg5
  z5 := Tryz.sizeOf5
  v5 := Tryz.zeroValue5
  infoByte := by kernel_rfl
  cellsByte := by kernel_rfl
  sizeByte := by kernel_rfl
  neB5 := by decide
theorem V_rd_inv {w : World} {G : Nat → Prop} {ρ : Names} {A : Allow} {sz n : Nat} {f : Nat → List AVal} {cv : Value} (h : V w G ρ A (.rd sz n f) cv) :
    (n = 0 ∧ ∃ a c, cv = .slice a 0 c) ∨ (∃ b o c, ∃ g : Nat → Nat → Value, cv = .slice (some ⟨b, o, none⟩) n c ∧ n ≤ c ∧ (∀ i j v, i < n → (f i)[j]? = some v → w.cell? ⟨b, o + i * sz + j, none⟩ = some (g i j)) ∧ (∀ i j v, i < n → (f i)[j]? = some v → V w G noNames noAllow v (g i j))) := by
  cases h with
  | rd0 => exact .inl ⟨rfl, _, _, rfl⟩
  | rd g h1 h2 h3 h4 h5 h6 => exact .inr ⟨_, _, _, g, rfl, h2, h5, h6⟩
theorem join_c (l : List (List UInt8)) (sep : List UInt8) (hN : l.length ≤ 140737488355328) (hlen : (Lib.join l sep).length ≤ 140737488355328) : AM.Pure Tryz.prog Γ 218 [strs l, .lit (.string (str sep))] (.lit (.string (str (Lib.join l sep)))) :=
  Pure_calls rfl fun w G args hG hv => by
    obtain ⟨h1, h2⟩ := hv
    have e0 := h2 0 _ rfl
    have e1 := V_lit (h2 1 _ rfl)
    have hs : args.size = 2 := by simpa using h1.symm
    obtain ⟨cv, rfl⟩ : ∃ cv, args = #[cv, .string (str sep)] := by
      rw [Array.getD_eq_getD_getElem?, Array.getElem?_eq_getElem (by omega)] at e1
      refine ⟨args[0], Array.ext (by simp [hs]) fun i hi hj => ?_⟩
      have : i = 0 ∨ i = 1 := by omega
      rcases this with rfl | rfl
      · rfl
      · simpa using e1
    have e0 : V w G noNames noAllow (strs l) cv := by simpa using e0
    have hd : (l.map str).map (·.data.toList) = l := by simp [Function.comp_def]
    have hj0 : l = [] → Lib.join l sep = [] := fun h => by subst h; rfl
    rcases V_rd_inv e0 with ⟨h0, a, c, rfl⟩ | ⟨b, o, c, g, rfl, hc, h5, h6⟩
    · have hl : l = [] := List.eq_nil_of_length_eq_zero h0
      refine (Any.strings_Join_none Tryz.layJoin layExtra a c (str sep) w).mono ?_
      rintro e w' ⟨rfl, rfl⟩
      exact ⟨_, rfl, Below.refl _ _, by rw [hj0 hl]; exact .lit⟩
    · have hcells : ∀ (j : Nat) x, (l.map str)[j]? = some x → w.cell? ⟨b, o + j, none⟩ = some (.string x) := fun j x hj => by
        have hj' : j < l.length := by have := (List.getElem?_eq_some_iff.1 hj).1; simpa using this
        have a1 := h5 j 0 _ hj' rfl
        have a2 := V_lit (h6 j 0 _ hj' rfl)
        rw [Nat.mul_one, Nat.add_zero] at a1
        rw [a1, a2]
        rw [List.getElem?_map, List.getElem?_eq_getElem hj'] at hj
        simp only [Option.map_some, Option.some.injEq] at hj
        rw [← hj]; simp [List.getD, hj']
      cases l with
      | nil =>
        refine (Any.strings_Join_none Tryz.layJoin layExtra (some ⟨b, o, none⟩) c (str sep) w).mono ?_
        rintro e w' ⟨rfl, rfl⟩
        exact ⟨_, rfl, Below.refl _ _, .lit⟩
      | cons x0 r =>
        have hbk : b < w.heap.size := by
          have h := hcells 0 _ rfl
          unfold World.cell? at h
          by_cases hb : b < w.heap.size
          · exact hb
          · rw [Array.getElem?_eq_none (by simpa using hb)] at h
            simp at h
        have h := Any.strings_Join Tryz.layJoin layExtra b o c ((x0 :: r).map str) (str sep) w hcells hbk (by rw [List.length_map]; exact hN) (by rw [List.length_map]; exact hc) (by rw [hd]; simpa using hlen)
        rw [List.length_map, hd] at h
        refine h.mono ?_
        rintro e w' ⟨rfl, hb⟩
        exact ⟨_, rfl, hb, by simpa using V.lit⟩
end Go.Proofs.T
end
section
namespace Go.Proofs.T
open Go Go.AM Go.Proofs Go.Lib
set_option maxRecDepth 20000
variable {Γ : List (Nat × List AVal)}
theorem join_runs : ∀ l : List (Nat × Nat), Lib.join (l.map runT) [44] = encR l
  | [] => rfl
  | [x] => by rw [List.map_cons, List.map_nil, Lib.join_one, encR]
  | x :: y :: r => by
    rw [List.map_cons, Lib.join_cons, encR, ← join_runs (y :: r), List.map_cons, Lib.join_cons]
    simp [Lib.joinTail]
theorem mT_zero : mT 0 = [45] := by
  unfold mT maskT
  exact if_pos mRuns_zero
theorem inv0 (m : Int) : ([] : List (Nat × Nat)) ++ runsB (mBit m) (64 - 0) 0 = mRuns m := by
  rw [List.nil_append, Nat.sub_zero]; rfl
theorem has_b (m : Int) (hm : U64 m) (c : Nat) (hc : c ≤ 100) : Pure Tryz.prog Γ 217 [.lit (.int .u64 m), .lit (.int .i64 (c : Int))] (.lit (.bool (mBit m c))) := by
  have h := has_c (Γ := Γ) m hm c hc
  have e : (decide (c < 64) && m.toNat.testBit c) = mBit m c := by
    by_cases h1 : c < 64
    · rw [decide_eq_true h1, mBit, Bool.true_and]
    · rw [decide_eq_false h1, mBit_stop hm c (by omega), Bool.false_and]
  rw [e] at h
  exact h
theorem mText_c (hG : GT Γ) (m : Int) (hm : U64 m) : Pure Tryz.prog Γ 147 [.lit (.int .u64 m)] (.lit (.string (ByteArray.mk (mT m).toArray))) := by
  refine Pure_at Tryz.func147 rfl 41 rfl (Nat.le_of_ble_eq_true rfl) rfl fun k => ?_
  have hm' := hm
  obtain ⟨m0, m1⟩ := hm'
  obtain ⟨T, eT⟩ : ∃ T, T = mT m := ⟨_, rfl⟩
  rw [← eT]
  have kp : Kp [0,2,3,4,5,6,8,10,16,23,28] (fun i => i - k) := kpI
  refine wl ?_ <;> and_intros <;> first | exact hdT | (apply zM; (repeat intro ht); apply zM; (repeat intro hg); apply zM)
  · refine C_ret rfl ⟨_, rfl, VLe.of_eq ?_⟩
    subst ht
    rw [eT, mT_zero]
  refine M_forO (X := Nat × List (Nat × Nat)) rfl [0,2,3,4,5,6,8,10,16,23,28] (k + 1) (fun x => [(4, .lit (.int .i64 (x.1 : Int))), (3, accV k (x.2.map fun y => [.lit (.string (ByteArray.mk (runT y).toArray))]))]) (fun x => accH k 1 (x.2.map fun y => [.lit (.string (ByteArray.mk (runT y).toArray))]) []) (fun x => x.1 ≤ 64 ∧ x.2.length ≤ x.1 ∧ x.2 ++ runsB (mBit m) (64 - x.1) x.1 = mRuns m) (fun x => 64 - x.1) (0, []) ?_ ⟨by simp, by simp, inv0 m⟩ ?_
  · refine rR ?_ <;> first | exact hdT | apply zN
    exact wkF
  rintro ⟨c, D⟩ ⟨h1, h2, h3⟩
  simp only at h1 h2 h3
  refine rR ?_ <;> first | exact hdT | apply zN
  obtain ⟨L, eL, hL⟩ : ∃ x, x = (D.map fun y => ([.lit (.string (ByteArray.mk (runT y).toArray))] : List AVal)) ∧ x.length ≤ c := ⟨_, rfl, by simp; omega⟩
  rw [← eL]
  obtain ⟨b, eb⟩ : ∃ b, b = mBit m c := ⟨_, rfl⟩
  refine wl ?_ <;> and_intros <;> first | exact hdT | (apply zM; (repeat intro ht); apply zM; (repeat intro hg); apply zM)
  · refine cl [.ret (.lit (.bool b))] ?_ <;> and_intros <;> first | exact hdT | (apply zM; (repeat intro ht); apply zM; (repeat intro hg); apply zM)
    · rw [eb]; exact has_b m hm c (by omega)
    cases b
    · refine wl ?_ <;> and_intros <;> first | exact hdT | (apply zM; (repeat intro ht); apply zM; (repeat intro hg); apply zM)
      · refine ⟨(c + 1, D), ⟨by simp; omega, by simp; omega, ?_⟩, by simp; omega, ?_⟩
        · simp only
          rw [← h3, show 64 - c = (64 - (c + 1)) + 1 by omega, runsB, if_pos (by omega), if_neg (by rw [← eb]; simp)]
        · simp only
          rw [← eL]
          exact wkF
    · refine wl ?_ <;> and_intros <;> first | exact hdT | (apply zM; (repeat intro ht); apply zM; (repeat intro hg); apply zM)
      refine cl [.ret (.lit (.string (ByteArray.mk (itoa (c : Int)).toArray)))] ?_ <;> and_intros <;> first | exact hdT | (apply zM; (repeat intro ht); apply zM; (repeat intro hg); apply zM)
      · exact itoa_c hG _ (by omega) (by omega)
      refine wl ?_ <;> and_intros <;> first | exact hdT | (apply zM; (repeat intro ht); apply zM; (repeat intro hg); apply zM)
      have lI : ∀ i : Nat, i < 64 → (itoa (i : Int)).length ≤ 20 := fun i hi => by rw [itoa_nat]; have := dec_len 19 i (by omega); omega
      obtain ⟨sI, eI⟩ : ∃ s, s = ByteArray.mk (itoa (c : Int)).toArray := ⟨_, rfl⟩
      have hsI : sI.size ≤ 20 := by rw [eI]; exact lI c (by omega)
      rw [← eI]
      refine M_forO (X := Nat) rfl [0,2,3,4,5,6,8,10,16,23,28] (k + 1) (fun j => [(6, .lit (.int .i64 (j : Int)))]) (fun j => accH k 1 L []) (fun j => c ≤ j ∧ j < 64 ∧ lastB (mBit m) (64 - (j - c)) j = lastB (mBit m) 64 c) (fun j => 64 - j) c ?_ ⟨Nat.le_refl _, by omega, by rw [Nat.sub_self]⟩ ?_
      · refine rR ?_ <;> first | exact hdT | apply zN
        exact wkF
      rintro j ⟨j1, j2, j3⟩
      refine rR ?_ <;> first | exact hdT | apply zN
      obtain ⟨b', eb'⟩ : ∃ b, b = mBit m (j + 1) := ⟨_, rfl⟩
      refine wl ?_ <;> and_intros <;> first | exact hdT | (apply zM; (repeat intro ht); apply zM; (repeat intro hg); apply zM)
      refine cl [.ret (.lit (.bool b'))] ?_ <;> and_intros <;> first | exact hdT | (apply zM; (repeat intro ht); apply zM; (repeat intro hg); apply zM)
      · rw [eb', wrap_i64 (by omega) (by omega), show (j : Int) + 1 = ((j + 1 : Nat) : Int) by omega]
        exact has_b m hm (j + 1) (by omega)
      cases b'
      · have hlast : lastB (mBit m) 64 c = j := by
          rw [← j3, show 64 - (j - c) = (64 - (j - c) - 1) + 1 by omega, lastB, if_neg (by rw [← eb']; simp)]
        have hinv : (D ++ [(c, j)]) ++ runsB (mBit m) (64 - (j + 1)) (j + 1) = mRuns m := by
          rw [← h3, show 64 - c = (64 - c - 1) + 1 by omega, runsB, if_pos (by omega), if_pos eb.symm, hlast, List.append_assoc, List.singleton_append, runsB_fuel' 64 (64 - (j + 1)) (64 - c - 1) (j + 1) (by omega) (by omega) (by omega)]
        refine wl ?_ <;> and_intros <;> first | exact hdT | (apply zM; (repeat intro ht); apply zM; (repeat intro hg); apply zM)
        · refine wl ?_ <;> and_intros <;> first | exact hdT | (apply zM; (repeat intro ht); apply zM; (repeat intro hg); apply zM)
          refine cl [.ret (.lit (.string (ByteArray.mk (itoa (j : Int)).toArray)))] ?_ <;> and_intros <;> first | exact hdT | (apply zM; (repeat intro ht); apply zM; (repeat intro hg); apply zM)
          · exact itoa_c hG _ (by omega) (by omega)
          refine wl ?_ <;> and_intros <;> first | exact hdT | (apply zM; (repeat intro ht); apply zM; (repeat intro hg); apply zM)
          · have := lI j j2; omega
          · have := lI j j2; omega
          have hs : sI ++ ByteArray.mk (45 :: itoa (j : Int)).toArray = ByteArray.mk (runT (c, j)).toArray := by
            rw [eI, s_app, runT, if_pos (by simp; omega), itoa_nat, itoa_nat]
          rw [hs]
          have hL' : (D ++ [(c, j)]).map (fun y => ([.lit (.string (ByteArray.mk (runT y).toArray))] : List AVal)) = L ++ [[.lit (.string (ByteArray.mk (runT (c, j)).toArray))]] := by rw [List.map_append, ← eL]; rfl
          have hD : (D ++ [(c, j)]).length ≤ j + 1 := by simp; omega
          clear eL
          rcases L with _ | ⟨x0, L⟩
          · refine wl ?_ <;> and_intros <;> first | exact hdT | (apply zM; (repeat intro ht); apply zM; (repeat intro hg); apply zM)
            refine ⟨(j + 1, D ++ [(c, j)]), ⟨by simp; omega, hD, hinv⟩, by simp; omega, ?_⟩
            simp only
            rw [hL']
            refine rR ?_ <;> first | exact hdT | apply zN
            exact Mv.app (k + 2) (k) ⟨by omega, by omega⟩ ⟨by omega, by omega⟩ (wk_low (by omega) (by simp -dsimp -implicitDefEqProofs only [go_sem, List.map_append, Flt.row, eq_self, ↓reduceIte]) (by simp -dsimp -implicitDefEqProofs only [go_sem, List.map_append, Flt.row, eq_self, ↓reduceIte]) (by simp -dsimp -implicitDefEqProofs only [go_sem, List.map_append, Flt.row, eq_self, ↓reduceIte]) (by simp -dsimp -implicitDefEqProofs only [go_sem, List.map_append, Flt.row, eq_self, ↓reduceIte]))
          · have hL2 : L.length + 1 ≤ c := by simpa using hL
            refine wl ?_ <;> and_intros <;> first | exact hdT | (apply zM; (repeat intro ht); apply zM; (repeat intro hg); apply zM)
            refine ⟨(j + 1, D ++ [(c, j)]), ⟨by simp; omega, hD, hinv⟩, by simp; omega, ?_⟩
            simp only
            rw [hL']
            refine rR ?_ <;> first | exact hdT | apply zN
            exact Mv.app (k + 2) (k) ⟨by omega, by omega⟩ ⟨by omega, by omega⟩ (wk_low (by omega) (by simp -dsimp -implicitDefEqProofs only [go_sem, List.map_append, Flt.row, eq_self, ↓reduceIte]) (by simp -dsimp -implicitDefEqProofs only [go_sem, List.map_append, Flt.row, eq_self, ↓reduceIte]) (by simp -dsimp -implicitDefEqProofs only [go_sem, List.map_append, Flt.row, eq_self, ↓reduceIte]) (by simp -dsimp -implicitDefEqProofs only [go_sem, List.map_append, Flt.row, eq_self, ↓reduceIte]))
        · have hjc : j = c := by omega
          subst hjc
          have hs : sI = ByteArray.mk (runT (j, j)).toArray := by
            rw [eI, runT, if_neg (by simp), itoa_nat, List.append_nil]
          subst hs
          have hL' : (D ++ [(j, j)]).map (fun y => ([.lit (.string (ByteArray.mk (runT y).toArray))] : List AVal)) = L ++ [[.lit (.string (ByteArray.mk (runT (j, j)).toArray))]] := by rw [List.map_append, ← eL]; rfl
          have hD : (D ++ [(j, j)]).length ≤ j + 1 := by simp; omega
          clear eL
          refine ⟨(j + 1, D ++ [(j, j)]), ⟨by simp; omega, hD, hinv⟩, by simp; omega, ?_⟩
          simp only
          rw [hL']
          refine rR ?_ <;> first | exact hdT | apply zN
          exact Mv.app (k + 2) (k) ⟨by omega, by omega⟩ ⟨by omega, by omega⟩ (wk_low (by omega) (by simp -dsimp -implicitDefEqProofs only [go_sem, List.map_append, Flt.row, eq_self, ↓reduceIte]) (by simp -dsimp -implicitDefEqProofs only [go_sem, List.map_append, Flt.row, eq_self, ↓reduceIte]) (by simp -dsimp -implicitDefEqProofs only [go_sem, List.map_append, Flt.row, eq_self, ↓reduceIte]) (by simp -dsimp -implicitDefEqProofs only [go_sem, List.map_append, Flt.row, eq_self, ↓reduceIte]))
      · have j4 : j + 1 < 64 := Nat.lt_of_not_le fun e => by rw [mBit_stop hm _ e] at eb'; cases eb'
        refine wl ?_ <;> and_intros <;> first | exact hdT | (apply zM; (repeat intro ht); apply zM; (repeat intro hg); apply zM)
        refine ⟨j + 1, ⟨by omega, j4, ?_⟩, by omega, ?_⟩
        · rw [← j3, show 64 - (j - c) = (64 - (j + 1 - c)) + 1 by omega, lastB, if_pos (by rw [← eb'])]
        · exact wkF
  · have hDc : D = mRuns m := by
      rw [show 64 - c = 0 by omega, runsB, List.append_nil] at h3; exact h3
    have hs : VLe (rows 1 L) (strs (D.map runT)) := by
      rw [eL]
      have := V_strs (D.map runT)
      rw [List.map_map] at this
      exact this
    have hT : T = Lib.join (D.map runT) [44] := by
      rw [join_runs, hDc, eT, mT, maskT, if_neg]
      intro e0
      have := ofRuns hm
      rw [e0] at this
      have h00 : m = 0 := this.symm
      omega
    have hTl : T.length ≤ 400 := by rw [eT]; exact mT_len hm
    refine W_mv (Mv.frz_acc (id := k) (s := 1) (l := L) 3 rfl (by rw [accIn_self]; trivial)) ?_
    refine W_mv (Mv_tmp 3 rfl hs) ?_
    refine rR ?_ <;> first | exact hdT | apply zN
    refine wl ?_ <;> and_intros <;> first | exact hdT | (apply zM; (repeat intro ht); apply zM; (repeat intro hg); apply zM)
    refine cl [.ret (.lit (.string (ByteArray.mk T.toArray)))] ?_ <;> and_intros <;> first | exact hdT | (apply zM; (repeat intro ht); apply zM; (repeat intro hg); apply zM)
    · rfl
    · rw [hT] at hTl ⊢
      exact join_c (D.map runT) [44] (by rw [List.length_map]; omega) (by omega)
    refine C_ret rfl ⟨_, rfl, VLe.of_eq ?_⟩
    rfl
end Go.Proofs.T
end
