import Derived.Test.YtkiadljldlppbaaGreatDoorZAH
set_option linter.unusedVariables false
set_option linter.unusedSimpArgs false
section
namespace Go.Proofs.T
open Go Go.AM Go.Proofs
set_option maxRecDepth 20000
variable {Γ : List (Nat × List AVal)}
def ztk : List AVal := [.lit (.int .i64 0), .lit (.int .i64 0), .lit (.int .i64 0), .lit (.int .i64 0), .lit (.int .u64 0), .lit (.bool false), .lit (.int .u64 0), .lit (.int .u32 0)]
theorem setRows_len {rows new : List (List AVal)} {r : Nat} (h : r + new.length ≤ rows.length) : (setRows rows new r).length = rows.length := by
  unfold setRows; simp only [List.length_append, List.length_take, List.length_drop]; omega
theorem setRows_take {rows new : List (List AVal)} {r : Nat} (h : r ≤ rows.length) : (setRows rows new r).take r = rows.take r := by
  unfold setRows
  rw [List.append_assoc, List.take_append_of_le_length (by simp; omega), List.take_take, Nat.min_self]
theorem erase_rows {R : List (List AVal)} {i n : Nat} {z : List (List AVal)} (hn : R.length = n) (hi : i < n) :
    (setRows (setRows R ((R.drop (i + 1)).take (n - (i + 1))) i) z (n - 1)).take (n - 1) = R.eraseIdx i := by
  have e : (R.drop (i + 1)).take (n - (i + 1)) = R.drop (i + 1) := List.take_of_length_le (by simp; omega)
  have e2 : (setRows R (R.drop (i + 1)) i).length = n := by rw [setRows_len (by simp; omega), hn]
  rw [e, setRows_take (by omega), List.eraseIdx_eq_take_drop_succ]
  unfold setRows
  rw [List.take_append_of_le_length (by simp; omega), List.take_of_length_le (by simp; omega)]
theorem slc_lt (t : Nat) {id r n c : Nat} {fr : Fr} {kb k : Nat} {H : Heap} (hf : AM.look fr t = some (.slc id r n c)) : Mv kb k fr H k ((t, .sl id r n) :: del fr t) H := Mv_le fun t' v hv => by
  simp only [AM.look] at hv
  split at hv
  · rename_i e; subst e; cases hv; exact ⟨_, hf, VLe.slc _ _ _ _⟩
  · rw [look_del] at hv
    split at hv
    · cases hv
    · exact ⟨v, hv, VLe.refl _⟩
set_option maxHeartbeats 2000000 in
theorem sdelete (R : List (List AVal)) (n i tk k : Nat) (hn : R.length = n) (hi : i < n) (hn2 : n ≤ 100000) (hone : (R.all fun row => row.all AM.one) = true) (hk : tk < k) :
    Tr Tryz.prog Γ 78 k [.sl tk 0 n, .lit (.int .i64 (i : Int)), .lit (.int .i64 ((i : Int) + 1))] [(tk, ⟨8, true, R⟩)] (fun k1 r1 H1 => k1 = k ∧ r1 = .sl tk 0 (n - 1) ∧ H1 = [(tk, ⟨8, true, R.eraseIdx i⟩)]) := by
  have hone2 : (((R.drop (i + 1)).take (n - (i + 1))).all fun row => row.all AM.one) = true := by
    rw [List.all_eq_true] at hone ⊢
    exact fun row h => hone row (List.mem_of_mem_drop (List.mem_of_mem_take h))
  refine Tr_at Tryz.func78 rfl 33 rfl (Nat.le_of_ble_eq_true rfl) ?_
  refine W_cap 0 (by simp -dsimp -implicitDefEqProofs (disch := omega) only [go_sem, nq0, eq_self, ↓reduceIte]; rfl) (by simp -dsimp -implicitDefEqProofs (disch := omega) only [go_sem, nq0, eq_self, ↓reduceIte]; rfl) (fun h => by omega) (fun cap hc1 hc2 => ?_)
  refine rRD ?_; apply zN
  have kp : Kp [0,1,2,6,7,16] (fun i => i - k) := kpI
  refine wlD ?_; refine zq1 ⟨⟨⟨?_⟩⟩⟩
  refine clD [.raw (some 12) ⟨.lit (.int .i64 n), k, [], [tk]⟩, .raw (some 13) ⟨.junk, k, [], [tk]⟩] ?_; refine zq3 ⟨⟨⟨?_⟩⟩⟩ ⟨⟨⟨?_⟩⟩⟩ ⟨⟨⟨?_⟩⟩⟩
  · exact lenc_good rfl (by kernel_rfl) rfl (look_one)
  · exact slice3_good rfl (look_one) (by kernel_rfl) rfl ⟨_, _, rfl, rfl⟩ ⟨_, _, rfl, rfl⟩ ⟨_, _, rfl, rfl⟩ (by omega) (by omega) (by omega) (by omega)
  refine wlD ?_; refine zq1 ⟨fun ht => ⟨⟨?_⟩⟩⟩
  refine clD [.raw (some 19) ⟨.lit (.int .i64 n), k, [], [tk]⟩] ?_; refine zq2 ⟨⟨⟨?_⟩⟩⟩ ⟨⟨⟨?_⟩⟩⟩
  · exact lenc_good rfl (by kernel_rfl) rfl (look_one)
  obtain ⟨q, hq⟩ : ∃ q, n = q + 1 := ⟨n - 1, by omega⟩
  have hq2 : n - 1 = q := by omega
  rw [hq2]
  obtain ⟨X, eX⟩ : ∃ X : List (List AVal), X = setRows R ((R.drop (i + 1)).take (n - (i + 1))) i := ⟨_, rfl⟩
  have hX1 : X.length = n := by rw [eX, setRows_len (by simp; omega), hn]
  have hX2 : ∀ z, (setRows X z q).take q = R.eraseIdx i := fun z => by rw [eX, ← hq2]; exact erase_rows hn hi
  have hX3 : (setRows X [ztk] q).length = n := by rw [setRows_len (by simp; omega), hX1]
  refine wlD ?_; refine zq1 ⟨⟨⟨?_⟩⟩⟩
  by_cases hlast : i + 1 = n
  · refine dlD [.raw (some 22) ⟨.slc tk 0 i cap, k, [], [tk]⟩, .raw (some 25) ⟨.slc tk (i + 1) 0 (cap - (i + 1)), k, [], [tk]⟩, .raw (some 26) ⟨.slc tk 0 i cap, k, [], [tk, tk]⟩] ?_; refine zq4 ⟨⟨⟨?_⟩⟩⟩ ⟨⟨⟨?_⟩⟩⟩ ⟨⟨⟨?_⟩⟩⟩ ⟨⟨⟨?_⟩⟩⟩
    · exact slc_goodE rfl (look_one) (by kernel_rfl) rfl rfl rfl (by omega) (by omega) (by omega) (by omega) (by omega) (by omega)
    · exact slc_goodE rfl (look_one) (by kernel_rfl) rfl rfl rfl (by omega) (by omega) (by omega) (by omega) (by omega) (by omega)
    · exact app0_good rfl y7 rfl (look_one) rfl (.sl (look_one) (by show i + 1 + 0 ≤ R.length; omega))
    have hiq : i = q := by omega
    have hXR : X = R := by
      rw [eX, show n - (i + 1) = 0 by omega, List.take_zero]
      unfold setRows
      simp
    have hX4 : ∀ z, (setRows X z q).take q = X.eraseIdx q := fun z => by rw [hX2, hXR, hiq]
    rw [← hXR, hiq]
    refine wlD ?_; refine zq1 ⟨⟨⟨?_⟩⟩⟩
    refine clD [.raw (some 29) ⟨.lit (.int .i64 (q : Int)), k, [], [tk]⟩, .raw (some 31) ⟨.slc tk q 1 (cap - q), k, [], [tk]⟩, .raw none ⟨.junk, k, [(tk, some ⟨8, true, setRows X (List.replicate 1 ztk) q⟩)], [tk]⟩] ?_; refine zq4 ⟨⟨⟨?_⟩⟩⟩ ⟨⟨⟨?_⟩⟩⟩ ⟨⟨⟨?_⟩⟩⟩ ⟨⟨⟨?_⟩⟩⟩
    · exact lenc_good rfl (by kernel_rfl) rfl (look_one)
    · exact slc_goodE rfl (look_one) (by kernel_rfl) rfl rfl rfl (by omega) (by omega) (by omega) (by omega) (by omega) (by omega)
    · exact clear_goodE (n := 1) rfl y7 rfl rfl (look_one) rfl (by omega) (by show q + 1 ≤ X.length; omega) rfl
    refine wlD ?_; refine zq1 ⟨⟨⟨?_⟩⟩⟩
    refine W_mv (Mv.cut tk q (look_one)) ?_
    refine W_mv (slc_lt 6 rfl) ?_
    refine rRD ?_; apply zN
    rw [hX4]
    have uU := Go.AM.uU; refine cRD ?_; apply zN
    first | exact ⟨rfl, rfl⟩ | rfl
  · obtain ⟨cap2, hcap2⟩ : ∃ x, x = cap - (i + 1) := ⟨_, rfl⟩
    obtain ⟨n2, hn2'⟩ : ∃ x, x = n - (i + 1) := ⟨_, rfl⟩
    rw [← hn2'] at eX hone2
    have hX4 := hX2
    refine dlD [.raw (some 22) ⟨.slc tk 0 i cap, k, [], [tk]⟩, .raw (some 25) ⟨.slc tk (i + 1) n2 cap2, k, [], [tk]⟩, .raw (some 26) ⟨.slc tk 0 q cap, k, [(tk, some ⟨8, true, X⟩)], [tk, tk]⟩] ?_; refine zq4 ⟨⟨⟨?_⟩⟩⟩ ⟨⟨⟨?_⟩⟩⟩ ⟨⟨⟨?_⟩⟩⟩ ⟨⟨⟨?_⟩⟩⟩
    · exact slc_goodE rfl (look_one) (by kernel_rfl) rfl rfl rfl (by omega) (by omega) (by omega) (by omega) (by omega) (by omega)
    · exact slc_goodE rfl (look_one) (by kernel_rfl) rfl rfl rfl (by omega) (by omega) (by omega) (by omega) (by omega) (by omega)
    · rw [eX]
      exact appin_goodE rfl y7 rfl (look_one) rfl rfl (.sl (look_one) (by show i + 1 + n2 ≤ R.length; omega)) hone2 (by omega) (by omega) (by show i ≤ R.length; omega) (by omega) rfl
    refine wlD ?_; refine zq1 ⟨⟨⟨?_⟩⟩⟩
    refine clD [.raw (some 29) ⟨.lit (.int .i64 (q : Int)), k, [], [tk]⟩, .raw (some 31) ⟨.slc tk q 1 (cap - q), k, [], [tk]⟩, .raw none ⟨.junk, k, [(tk, some ⟨8, true, setRows X (List.replicate 1 ztk) q⟩)], [tk]⟩] ?_; refine zq4 ⟨⟨⟨?_⟩⟩⟩ ⟨⟨⟨?_⟩⟩⟩ ⟨⟨⟨?_⟩⟩⟩ ⟨⟨⟨?_⟩⟩⟩
    · exact lenc_good rfl (by kernel_rfl) rfl (look_one)
    · exact slc_goodE rfl (look_one) (by kernel_rfl) rfl rfl rfl (by omega) (by omega) (by omega) (by omega) (by omega) (by omega)
    · exact clear_goodE (n := 1) rfl y7 rfl rfl (look_one) rfl (by omega) (by show q + 1 ≤ X.length; omega) rfl
    refine wlD ?_; refine zq1 ⟨⟨⟨?_⟩⟩⟩
    refine W_mv (Mv.cut tk q (look_one)) ?_
    refine W_mv (slc_lt 6 rfl) ?_
    refine rRD ?_; apply zN
    rw [hX4]
    have uU := Go.AM.uU; refine cRD ?_; apply zN
    first | exact ⟨rfl, rfl⟩ | rfl
end Go.Proofs.T
end
section
namespace Go.Proofs.T
open Go Go.AM Go.Proofs
set_option maxRecDepth 20000
variable {Γ : List (Nat × List AVal)}
abbrev enc (v r w : Int) : AVal := .agg [.lit (.int .u64 v), .lit (.int .u32 r), .lit (.int .u32 w)]
def lessZ (a b : Int) : Int := if a ≤ b then 0 else a - b
def andZ (a b : Int) : Int := if b ≤ 18446744073709551615 - a then a + b else 18446744073709551615
theorem mweighs (w : Int) : Pure Tryz.prog Γ 67 [.lit (.int .i64 w)] (.lit (.bool (decide (1 ≤ w ∧ w ≤ 65536)))) := by
  refine Pure_at Tryz.func67 rfl 9 rfl (Nat.le_of_ble_eq_true rfl) rfl fun k => ?_
  have kp : Kp [0,2] (fun i => i - k) := kpI
  refine wl ?_; refine zq2 ⟨⟨fun hg => ⟨?_⟩⟩⟩ ⟨⟨fun hg => ⟨?_⟩⟩⟩
  all_goals (refine C_ret rfl ⟨_, rfl, VLe.of_eq ?_⟩)
  all_goals ((simp only [AVal.lit.injEq, Value.bool.injEq]; rw [Bool.eq_iff_iff]; simp only [beq_iff_eq, bne_iff_ne, ne_eq, decide_eq_true_eq, decide_eq_false_iff_not, Bool.and_eq_true, Bool.or_eq_true, Bool.not_eq_true', beq_eq_false_iff_ne, Bool.false_eq_true, Bool.true_eq_false, true_iff, false_iff, iff_true, iff_false]; omega))
theorem mtask (w : Int) : Pure Tryz.prog Γ 66 [.lit (.int .i64 w)] (.lit (.bool (decide (1 ≤ w ∧ w ≤ 65535)))) := by
  refine Pure_at Tryz.func66 rfl 9 rfl (Nat.le_of_ble_eq_true rfl) rfl fun k => ?_
  have kp : Kp [0,2] (fun i => i - k) := kpI
  refine wl ?_; refine zq2 ⟨⟨fun hg => ⟨?_⟩⟩⟩ ⟨⟨fun hg => ⟨?_⟩⟩⟩
  all_goals (refine C_ret rfl ⟨_, rfl, VLe.of_eq ?_⟩)
  all_goals ((simp only [AVal.lit.injEq, Value.bool.injEq]; rw [Bool.eq_iff_iff]; simp only [beq_iff_eq, bne_iff_ne, ne_eq, decide_eq_true_eq, decide_eq_false_iff_not, Bool.and_eq_true, Bool.or_eq_true, Bool.not_eq_true', beq_eq_false_iff_ne, Bool.false_eq_true, Bool.true_eq_false, true_iff, false_iff, iff_true, iff_false]; omega))
theorem cticked (w : Int) : Pure Tryz.prog Γ 109 [.lit (.int .i64 w)] (.lit (.bool (decide (0 ≤ w ∧ w ≤ 4294967295)))) := by
  refine Pure_at Tryz.func109 rfl 9 rfl (Nat.le_of_ble_eq_true rfl) rfl fun k => ?_
  have kp : Kp [0,2] (fun i => i - k) := kpI
  refine wl ?_; refine zq2 ⟨⟨fun hg => ⟨?_⟩⟩⟩ ⟨⟨fun hg => ⟨?_⟩⟩⟩
  all_goals (refine C_ret rfl ⟨_, rfl, VLe.of_eq ?_⟩)
  all_goals ((simp only [AVal.lit.injEq, Value.bool.injEq]; rw [Bool.eq_iff_iff]; simp only [beq_iff_eq, bne_iff_ne, ne_eq, decide_eq_true_eq, decide_eq_false_iff_not, Bool.and_eq_true, Bool.or_eq_true, Bool.not_eq_true', beq_eq_false_iff_ne, Bool.false_eq_true, Bool.true_eq_false, true_iff, false_iff, iff_true, iff_false]; omega))
theorem pless (a b : Int) (ha : 0 ≤ a) (ha2 : a ≤ 18446744073709551615) (hb : 0 ≤ b) : Pure Tryz.prog Γ 108 [.lit (.int .u64 a), .lit (.int .u64 b)] (.lit (.int .u64 (lessZ a b))) := by
  refine Pure_at Tryz.func108 rfl 10 rfl (Nat.le_of_ble_eq_true rfl) rfl fun k => ?_
  have kp : Kp [0,1,4] (fun i => i - k) := kpI
  refine wl ?_; refine zq1 ⟨⟨⟨?_⟩⟩⟩
  refine C_ret rfl ⟨_, rfl, VLe.of_eq ?_⟩
  unfold lessZ
  by_cases h : b < a
  · rw [if_pos h, if_neg (by omega)]
  · rw [if_neg h, if_pos (by omega), Int.sub_self]
theorem pand (a b : Int) (ha : 0 ≤ a) (ha2 : a ≤ 18446744073709551615) (hb : 0 ≤ b) : Pure Tryz.prog Γ 131 [.lit (.int .u64 a), .lit (.int .u64 b)] (.lit (.int .u64 (andZ a b))) := by
  refine Pure_at Tryz.func131 rfl 11 rfl (Nat.le_of_ble_eq_true rfl) rfl fun k => ?_
  have kp : Kp [0,1,4] (fun i => i - k) := kpI
  refine wl ?_; refine zq1 ⟨⟨⟨?_⟩⟩⟩
  refine C_ret rfl ⟨_, rfl, VLe.of_eq ?_⟩
  unfold andZ
  by_cases h : 18446744073709551615 - a < b
  · rw [if_pos h, if_neg (by omega)]
    congr 2; omega
  · rw [if_neg h, if_pos (by omega)]
theorem mentity (v r w : Int) (hw : 0 ≤ w) (hw2 : w < 4294967296) : Pure Tryz.prog Γ 77 [.lit (.int .u64 v), .lit (.int .u32 r), .lit (.int .i64 w)] (enc v r w) := by
  refine Pure_at Tryz.func77 rfl 12 rfl (Nat.le_of_ble_eq_true rfl) rfl fun k => ?_
  have kp : Kp [0,1,2,6] (fun i => i - k) := kpI
  refine wl ?_; refine zq1 ⟨⟨⟨?_⟩⟩⟩
  have uU := Go.AM.uU; refine cR ?_; apply zN
  exact VLe.refl _
theorem ent_new {f w : Int} (h1 : 1 ≤ w) (h2 : w ≤ 65536) : ent f 0 w = true := by simp [ent]; omega
theorem pnew (f w : Int) (h1 : 1 ≤ w) (h2 : w ≤ 65536) : Pure Tryz.prog Γ 70 [.lit (.int .u64 f), .lit (.int .i64 w)] (.tup [enc f 0 w, .lit (.int .i64 0)]) := by
  refine Pure_at Tryz.func70 rfl 23 rfl (Nat.le_of_ble_eq_true rfl) rfl fun k => ?_
  have e1 : IntKind.u32.wrap w = w := wrap_u32 (by omega) (by omega)
  have e2 : IntKind.i64.wrap w = w := wrap_i64 (by omega) (by omega)
  have kp : Kp [0,1,4,5,6,20] (fun i => i - k) := kpI
  have uU := zA @e1 @e2
  refine wl ?_; refine zq1 ⟨⟨⟨?_⟩⟩⟩
  refine cl [.ret (.lit (.bool true))] ?_; refine zq3 ⟨⟨fun hg => ⟨?_⟩⟩⟩ ⟨⟨fun hg => ⟨?_⟩⟩⟩ ⟨⟨fun hg => ⟨?_⟩⟩⟩
  · rw [← ent_new (f := f) h1 h2]; exact chargeRight f 0 w (by omega) (by omega)
  all_goals (try (exact absurd trivial ‹¬ True›))
  all_goals ((refine wl ?_; refine zq1 ⟨fun ht => ⟨⟨?_⟩⟩⟩))
  have uU := zA @e1 @e2; refine cR ?_; apply zN
  exact VLe.refl _
def wokenZ (v r floor credit : Int) : Int × Int := if v < lessZ floor credit then (lessZ floor credit, 0) else (v, r)
theorem pwoken (v r w f c : Int) (he : ent v r w = true) (hf : 0 ≤ f) (hf2 : f ≤ 18446744073709551615) (hc : 0 ≤ c) : Pure Tryz.prog Γ 76 [enc v r w, .lit (.int .u64 f), .lit (.int .u64 c)] (.tup [enc (wokenZ v r f c).1 (wokenZ v r f c).2 w, .lit (.int .i64 0)]) := by
  have hE := he
  simp only [ent, decide_eq_true_eq] at hE
  obtain ⟨z, ez⟩ : ∃ z, z = lessZ f c := ⟨_, rfl⟩
  refine Pure_at Tryz.func76 rfl 25 rfl (Nat.le_of_ble_eq_true rfl) rfl fun k => ?_
  have kp : Kp [0,1,2,3,6,7,8,11,19] (fun i => i - k) := kpI
  refine wl ?_; refine zq1 ⟨⟨⟨?_⟩⟩⟩
  refine cl [.ret (.lit (.bool true))] ?_; refine zq2 ⟨⟨⟨?_⟩⟩⟩ ⟨⟨⟨?_⟩⟩⟩
  · rw [← he]; exact chargeRight v r w (by omega) (by omega)
  refine wl ?_; refine zq1 ⟨fun ht => ⟨⟨?_⟩⟩⟩
  refine cl [.ret (.lit (.int .u64 z))] ?_; refine zq2 ⟨⟨⟨?_⟩⟩⟩ ⟨⟨⟨?_⟩⟩⟩
  · rw [ez]; exact pless f c hf hf2 hc
  refine wl ?_; refine zq2 ⟨fun ht => ⟨⟨?_⟩⟩⟩ ⟨fun ht => ⟨⟨?_⟩⟩⟩
  · have uU := Go.AM.uU; refine cR ?_; apply zN
    unfold wokenZ; rw [← ez, if_pos (by omega)]; exact VLe.refl _
  · have uU := Go.AM.uU; refine cR ?_; apply zN
    unfold wokenZ; rw [← ez, if_neg (by omega)]; exact VLe.refl _
def movedZ (v r a b : Int) : Int × Int :=
  let x := if a ≤ v then andZ b (v - a) else lessZ b (a - v)
  (x, if x = 18446744073709551615 then 0 else r)
theorem pmoved (v r w a b : Int) (he : ent v r w = true) (hv : 0 ≤ v) (hv2 : v ≤ 18446744073709551615) (ha : 0 ≤ a) (ha2 : a ≤ 18446744073709551615) (hb : 0 ≤ b) (hb2 : b ≤ 18446744073709551615) :
    Pure Tryz.prog Γ 113 [enc v r w, .lit (.int .u64 a), .lit (.int .u64 b)] (.tup [enc (movedZ v r a b).1 (movedZ v r a b).2 w, .lit (.int .i64 0)]) := by
  have hE := he
  simp only [ent, decide_eq_true_eq] at hE
  refine Pure_at Tryz.func113 rfl 35 rfl (Nat.le_of_ble_eq_true rfl) rfl fun k => ?_
  have kp : Kp [0,1,2,3,6,7,10,15,32] (fun i => i - k) := kpI
  refine wl ?_; refine zq1 ⟨⟨⟨?_⟩⟩⟩
  refine cl [.ret (.lit (.bool true))] ?_; refine zq2 ⟨⟨⟨?_⟩⟩⟩ ⟨⟨⟨?_⟩⟩⟩
  · rw [← he]; exact chargeRight v r w (by omega) (by omega)
  refine wl ?_; refine zq2 ⟨fun ht ht => ⟨⟨?_⟩⟩⟩ ⟨fun ht ht => ⟨⟨?_⟩⟩⟩
  · obtain ⟨z, ez⟩ : ∃ z, z = andZ b (v - a) := ⟨_, rfl⟩
    have e1 : IntKind.u64.wrap (v - a) = v - a := wrap_u64 (by omega) (by omega)
    have uU := @e1
    refine cl [.ret (.lit (.int .u64 z))] ?_; refine zq2 ⟨⟨⟨?_⟩⟩⟩ ⟨⟨⟨?_⟩⟩⟩
    · rw [ez]; exact pand b (v - a) hb hb2 (by omega)
    refine wl ?_; refine zq2 ⟨fun ht => ⟨⟨?_⟩⟩⟩ ⟨fun ht => ⟨⟨?_⟩⟩⟩
    · have uU := @e1; refine cR ?_; apply zN
      unfold movedZ; simp only []; rw [if_pos (by omega), ← ez]; first | (rw [if_pos (by assumption)]; exact VLe.refl _) | (rw [if_neg (by assumption)]; exact VLe.refl _)
    · have uU := @e1; refine cR ?_; apply zN
      unfold movedZ; simp only []; rw [if_pos (by omega), ← ez]; first | (rw [if_pos (by assumption)]; exact VLe.refl _) | (rw [if_neg (by assumption)]; exact VLe.refl _)
  · obtain ⟨z, ez⟩ : ∃ z, z = lessZ b (a - v) := ⟨_, rfl⟩
    have e1 : IntKind.u64.wrap (a - v) = a - v := wrap_u64 (by omega) (by omega)
    have uU := @e1
    refine cl [.ret (.lit (.int .u64 z))] ?_; refine zq2 ⟨⟨⟨?_⟩⟩⟩ ⟨⟨⟨?_⟩⟩⟩
    · rw [ez]; exact pless b (a - v) hb hb2 (by omega)
    refine wl ?_; refine zq2 ⟨fun ht => ⟨⟨?_⟩⟩⟩ ⟨fun ht => ⟨⟨?_⟩⟩⟩
    · have uU := @e1; refine cR ?_; apply zN
      unfold movedZ; simp only []; rw [if_neg (by omega), ← ez]; first | (rw [if_pos (by assumption)]; exact VLe.refl _) | (rw [if_neg (by assumption)]; exact VLe.refl _)
    · have uU := @e1; refine cR ?_; apply zN
      unfold movedZ; simp only []; rw [if_neg (by omega), ← ez]; first | (rw [if_pos (by assumption)]; exact VLe.refl _) | (rw [if_neg (by assumption)]; exact VLe.refl _)
end Go.Proofs.T
end
section
namespace Go.Proofs.T
open Go Go.AM Go.Proofs
set_option maxRecDepth 20000
variable {Γ : List (Nat × List AVal)}
def addZ (v r w t : Int) : Int × Int := if 18446744073709551615 - v ≤ (t * 1048576 + r) / w then (18446744073709551615, 0) else (v + (t * 1048576 + r) / w, (t * 1048576 + r) % w)
theorem cadd (v r w t : Int) (he : ent v r w = true) (hv : 0 ≤ v) (hv2 : v ≤ 18446744073709551615) (hr : 0 ≤ r) (ht : 0 ≤ t) (ht2 : t ≤ 4294967295) : Pure Tryz.prog Γ 110 [enc v r w, .lit (.int .i64 t)] (enc (addZ v r w t).1 (addZ v r w t).2 w) := by
  simp only [ent, decide_eq_true_eq] at he
  obtain ⟨n, en⟩ : ∃ n, n = t * 1048576 + r := ⟨_, rfl⟩
  have e1 : IntKind.u64.wrap t = t := wrap_u64 (by omega) (by omega)
  have e2 : IntKind.u64.wrap r = r := wrap_u64 (by omega) (by omega)
  have e3 : IntKind.u64.wrap w = w := wrap_u64 (by omega) (by omega)
  have e4 : IntKind.u64.wrap (t * 1048576) = t * 1048576 := wrap_u64 (by omega) (by omega)
  have e5 : IntKind.u64.wrap (t * 1048576 + r) = n := by rw [wrap_u64 (by omega) (by omega), en]
  have hn : 0 ≤ n := by omega
  have q0 : 0 ≤ n / w := Int.ediv_nonneg hn (by omega)
  have q1 : n / w ≤ n := Int.ediv_le_self _ hn
  have r0 : 0 ≤ n % w := Int.emod_nonneg _ (by omega)
  have r1 : n % w < w := Int.emod_lt_of_pos _ (by omega)
  have e6 : n.tdiv w = n / w := Int.tdiv_eq_ediv_of_nonneg hn
  have e7 : n.tmod w = n % w := Int.tmod_eq_emod_of_nonneg hn
  have e8 : IntKind.u64.wrap (n / w) = n / w := wrap_u64 (by omega) (by omega)
  have e9 : IntKind.u32.wrap (n % w) = n % w := wrap_u32 (by omega) (by omega)
  have e10 : (w = 0) = False := eq_false (by omega)
  have e11 : IntKind.u64.wrap (18446744073709551615 - v) = 18446744073709551615 - v := wrap_u64 (by omega) (by omega)
  refine Pure_at Tryz.func110 rfl 42 rfl (Nat.le_of_ble_eq_true rfl) rfl fun k => ?_
  have kp : Kp [0,1,2,4,5,6,7,29] (fun i => i - k) := kpI
  have uU := zA @e1 (zA @e2 (zA @e3 (zA @e4 (zA @e5 (zA @e6 (zA @e7 (zA @e8 (zA @e9 (zA @e10 @e11)))))))))
  refine wl ?_; refine zq2 ⟨fun ht => ⟨⟨?_⟩⟩⟩ ⟨fun ht => ⟨⟨?_⟩⟩⟩
  · have uU := zA @e1 (zA @e2 (zA @e3 (zA @e4 (zA @e5 (zA @e6 (zA @e7 (zA @e8 (zA @e9 (zA @e10 @e11))))))))); refine cR ?_; apply zN
    unfold addZ; rw [← en, if_pos (by omega)]; exact VLe.refl _
  · have uU := zA @e1 (zA @e2 (zA @e3 (zA @e4 (zA @e5 (zA @e6 (zA @e7 (zA @e8 (zA @e9 (zA @e10 @e11))))))))); refine cR ?_; apply zN
    unfold addZ; rw [← en, if_neg (by omega)]; exact VLe.refl _
theorem chargeAdd (v r w t : Int) (he : ent v r w = true) (hv : 0 ≤ v) (hv2 : v ≤ 18446744073709551615) (hr : 0 ≤ r) (h0 : 0 ≤ t) (h02 : t ≤ 4294967295) : Pure Tryz.prog Γ 79 [enc v r w, .lit (.int .i64 t)] (.tup [enc (addZ v r w t).1 (addZ v r w t).2 w, .lit (.int .i64 0)]) := by
  have hE := he
  simp only [ent, decide_eq_true_eq] at hE
  obtain ⟨z, ez⟩ : ∃ z, z = addZ v r w t := ⟨_, rfl⟩
  rw [← ez]
  refine Pure_at Tryz.func79 rfl 18 rfl (Nat.le_of_ble_eq_true rfl) rfl fun k => ?_
  have kp : Kp [0,1,2,4,5,13] (fun i => i - k) := kpI
  refine wl ?_; refine zq1 ⟨⟨⟨?_⟩⟩⟩
  refine cl [.ret (.lit (.bool true)), .ret (.lit (.bool true))] ?_; refine zq3 ⟨⟨⟨?_⟩⟩⟩ ⟨⟨⟨?_⟩⟩⟩ ⟨⟨⟨?_⟩⟩⟩
  · rw [← he]; exact chargeRight v r w (by omega) (by omega)
  all_goals (try (exact absurd trivial ‹¬ True›))
  · have h := cticked (Γ := Γ) t
    rw [decide_eq_true (by omega)] at h
    exact h
  all_goals (try (exact absurd trivial ‹¬ True›))
  refine wl ?_; refine zq1 ⟨fun ht => ⟨⟨?_⟩⟩⟩
  refine cl [.ret (enc z.1 z.2 w)] ?_; refine zq2 ⟨⟨⟨?_⟩⟩⟩ ⟨⟨⟨?_⟩⟩⟩
  · rw [ez]; exact cadd v r w t he hv hv2 hr h0 h02
  refine wl ?_; refine zq1 ⟨⟨⟨?_⟩⟩⟩
  have uU := Go.AM.uU; refine cR ?_; apply zN
  exact VLe.refl _
theorem chargeWeigh (v r w x : Int) (he : ent v r w = true) (h1 : 1 ≤ x) (h2 : x ≤ 65536) : Pure Tryz.prog Γ 81 [enc v r w, .lit (.int .i64 x)] (.tup [enc v 0 x, .lit (.int .i64 0)]) := by
  have hE := he
  simp only [ent, decide_eq_true_eq] at hE
  refine Pure_at Tryz.func81 rfl 20 rfl (Nat.le_of_ble_eq_true rfl) rfl fun k => ?_
  have kp : Kp [0,1,2,4,5,13] (fun i => i - k) := kpI
  refine wl ?_; refine zq1 ⟨⟨⟨?_⟩⟩⟩
  refine cl [.ret (.lit (.bool true)), .ret (.lit (.bool true))] ?_; refine zq3 ⟨⟨⟨?_⟩⟩⟩ ⟨⟨⟨?_⟩⟩⟩ ⟨⟨⟨?_⟩⟩⟩
  · rw [← he]; exact chargeRight v r w (by omega) (by omega)
  all_goals (try (exact absurd trivial ‹¬ True›))
  · have h := weighs (Γ := Γ) x
    rw [decide_eq_true (by omega)] at h
    exact h
  all_goals (try (exact absurd trivial ‹¬ True›))
  refine wl ?_; refine zq1 ⟨fun ht => ⟨⟨?_⟩⟩⟩
  have uU := Go.AM.uU; refine cR ?_; apply zN
  exact VLe.refl _
def cmpZ (a b : Int) : Int := if a < b then -1 else if b < a then 1 else 0
theorem nan_i (a : Int) : Pure Tryz.prog Γ 117 [.lit (.int .i64 a)] (.lit (.bool false)) := by
  refine Pure_at Tryz.func117 rfl 6 rfl (Nat.le_of_ble_eq_true rfl) rfl fun k => ?_
  have kp : Kp [0,2] (fun i => i - k) := kpI
  refine wl ?_; refine zq1 ⟨⟨⟨?_⟩⟩⟩
  refine C_ret rfl ⟨_, rfl, VLe.of_eq ?_⟩
  simp
theorem nan_u (a : Int) : Pure Tryz.prog Γ 142 [.lit (.int .u64 a)] (.lit (.bool false)) := by
  refine Pure_at Tryz.func142 rfl 6 rfl (Nat.le_of_ble_eq_true rfl) rfl fun k => ?_
  have kp : Kp [0,2] (fun i => i - k) := kpI
  refine wl ?_; refine zq1 ⟨⟨⟨?_⟩⟩⟩
  refine C_ret rfl ⟨_, rfl, VLe.of_eq ?_⟩
  simp
theorem cmp_i (a b : Int) : Pure Tryz.prog Γ 97 [.lit (.int .i64 a), .lit (.int .i64 b)] (.lit (.int .i64 (cmpZ a b))) := by
  refine Pure_at Tryz.func97 rfl 20 rfl (Nat.le_of_ble_eq_true rfl) rfl fun k => ?_
  have kp : Kp [0,1,4,5,6,11,12,13,16,19] (fun i => i - k) := kpI
  refine wl ?_; refine zq1 ⟨⟨⟨?_⟩⟩⟩
  refine cl [.ret (.lit (.bool false))] ?_; refine zq2 ⟨⟨⟨?_⟩⟩⟩ ⟨⟨⟨?_⟩⟩⟩
  · exact nan_i a
  refine wl ?_; refine zq1 ⟨⟨⟨?_⟩⟩⟩
  refine cl [.ret (.lit (.bool false))] ?_; refine zq2 ⟨⟨⟨?_⟩⟩⟩ ⟨⟨⟨?_⟩⟩⟩
  · exact nan_i b
  refine wl ?_; refine zq3 ⟨fun ht ht ht => ⟨⟨?_⟩⟩⟩ ⟨fun ht ht ht ht => ⟨⟨?_⟩⟩⟩ ⟨fun ht ht ht ht => ⟨⟨?_⟩⟩⟩
  all_goals (refine C_ret rfl ⟨_, rfl, VLe.of_eq ?_⟩)
  all_goals (unfold cmpZ)
  · rw [if_pos (by omega)]
  · rw [if_neg (by omega), if_pos (by omega)]
  · rw [if_neg (by omega), if_neg (by omega)]
theorem cmp_u (a b : Int) : Pure Tryz.prog Γ 118 [.lit (.int .u64 a), .lit (.int .u64 b)] (.lit (.int .i64 (cmpZ a b))) := by
  refine Pure_at Tryz.func118 rfl 20 rfl (Nat.le_of_ble_eq_true rfl) rfl fun k => ?_
  have kp : Kp [0,1,4,5,6,11,12,13,16,19] (fun i => i - k) := kpI
  refine wl ?_; refine zq1 ⟨⟨⟨?_⟩⟩⟩
  refine cl [.ret (.lit (.bool false))] ?_; refine zq2 ⟨⟨⟨?_⟩⟩⟩ ⟨⟨⟨?_⟩⟩⟩
  · exact nan_u a
  refine wl ?_; refine zq1 ⟨⟨⟨?_⟩⟩⟩
  refine cl [.ret (.lit (.bool false))] ?_; refine zq2 ⟨⟨⟨?_⟩⟩⟩ ⟨⟨⟨?_⟩⟩⟩
  · exact nan_u b
  refine wl ?_; refine zq3 ⟨fun ht ht ht => ⟨⟨?_⟩⟩⟩ ⟨fun ht ht ht ht => ⟨⟨?_⟩⟩⟩ ⟨fun ht ht ht ht => ⟨⟨?_⟩⟩⟩
  all_goals (refine C_ret rfl ⟨_, rfl, VLe.of_eq ?_⟩)
  all_goals (unfold cmpZ)
  · rw [if_pos (by omega)]
  · rw [if_neg (by omega), if_pos (by omega)]
  · rw [if_neg (by omega), if_neg (by omega)]
theorem find1 (x : Tk) (b : Int) : Pure Tryz.prog Γ 96 [.agg (tkc x), .lit (.int .i64 b)] (.lit (.int .i64 (cmpZ x.id b))) := by
  refine Pure_at Tryz.func96 rfl 9 rfl (Nat.le_of_ble_eq_true rfl) rfl fun k => ?_
  have kp : Kp [0,1,2,4] (fun i => i - k) := kpI
  refine wl ?_; refine zq1 ⟨⟨⟨?_⟩⟩⟩
  refine cl [.ret (.lit (.int .i64 (cmpZ x.id b)))] ?_; refine zq2 ⟨⟨⟨?_⟩⟩⟩ ⟨⟨⟨?_⟩⟩⟩
  · exact cmp_i _ _
  refine wl ?_; refine zq1 ⟨⟨⟨?_⟩⟩⟩
  refine C_ret rfl ⟨_, rfl, VLe.of_eq ?_⟩
  rfl
end Go.Proofs.T
end
section
namespace Go.Proofs.T
open Go Go.AM Go.Proofs
set_option maxRecDepth 20000
variable {Γ : List (Nat × List AVal)}
def cmp3 (a0 a1 a2 b0 b1 b2 : Int) : Int := if cmpZ a0 b0 ≠ 0 then cmpZ a0 b0 else if cmpZ a1 b1 ≠ 0 then cmpZ a1 b1 else cmpZ a2 b2
def mb3 (a b c : Int) : Blk := ⟨1, true, [[.lit (.int .u64 a)], [.lit (.int .u64 b)], [.lit (.int .u64 c)]]⟩
attribute [go_sem] mb3
theorem scompare (k x y : Nat) (a0 a1 a2 b0 b1 b2 : Int) (hx : x < k) (hy : y < k) (hne : x ≠ y) :
    Tr Tryz.prog Γ 99 k [.sl x 0 3, .sl y 0 3] [(x, mb3 a0 a1 a2), (y, mb3 b0 b1 b2)] (fun k1 r1 H1 => k1 = k ∧ r1 = .lit (.int .i64 (cmp3 a0 a1 a2 b0 b1 b2)) ∧ H1 = [(x, mb3 a0 a1 a2), (y, mb3 b0 b1 b2)]) := by
  have key : ∀ i, i < 3 → (i = 0 ∨ i = 1 ∨ i = 2) := fun i h => by omega
  refine Tr_at Tryz.func99 rfl 36 rfl (Nat.le_of_ble_eq_true rfl) ?_
  have kp : Kp [0,1,4,5,6,7,8,9,10,11,12,19,28,35] (fun i => i - k) := kpI
  refine wlD ?_; refine zq1 ⟨⟨⟨?_⟩⟩⟩
  refine M_forO (X := Nat) rfl [0,1,4,5,6,7,8,9,10,11,12,19,28,35] k (fun i => [(11, .lit (.int .i64 (i : Int)))]) (fun i => [(x, mb3 a0 a1 a2), (y, mb3 b0 b1 b2)]) (fun i => i ≤ 3 ∧ (0 < i → cmpZ a0 b0 = 0) ∧ (1 < i → cmpZ a1 b1 = 0) ∧ (2 < i → cmpZ a2 b2 = 0)) (fun i => 3 - i) 0 ?_ ⟨by omega, by omega, by omega, by omega⟩ ?_
  · refine rRD ?_; apply zN
    exact wkD
  rintro i ⟨hi, h0, h1, h2⟩
  have hc : i = 0 ∨ i = 1 ∨ i = 2 ∨ i = 3 := by omega
  rcases hc with rfl | rfl | rfl | rfl
  · refine rRD ?_; apply zN
    refine wlD ?_; refine zq1 ⟨fun ht ht => ⟨⟨?_⟩⟩⟩
    refine clD [.ret (.lit (.int .i64 (cmpZ a0 b0)))] ?_; refine zq2 ⟨⟨⟨?_⟩⟩⟩ ⟨⟨⟨?_⟩⟩⟩
    · exact cmp_u _ _
    refine wlD ?_; refine zq2 ⟨fun ht => ⟨⟨?_⟩⟩⟩ ⟨fun ht => ⟨⟨?_⟩⟩⟩
    · have uU := Go.AM.uU; refine cRD ?_; apply zN
      unfold cmp3; rw [if_pos (by assumption)]
    · refine ⟨1, ⟨by omega, fun _ => by omega, by omega, by omega⟩, by omega, ?_⟩
      refine rRD ?_; apply zN
      exact wkD
  · refine rRD ?_; apply zN
    refine wlD ?_; refine zq1 ⟨fun ht ht => ⟨⟨?_⟩⟩⟩
    refine clD [.ret (.lit (.int .i64 (cmpZ a1 b1)))] ?_; refine zq2 ⟨⟨⟨?_⟩⟩⟩ ⟨⟨⟨?_⟩⟩⟩
    · exact cmp_u _ _
    refine wlD ?_; refine zq2 ⟨fun ht => ⟨⟨?_⟩⟩⟩ ⟨fun ht => ⟨⟨?_⟩⟩⟩
    · have uU := Go.AM.uU; refine cRD ?_; apply zN
      unfold cmp3; rw [if_neg (by have := h0 (by omega); omega), if_pos (by assumption)]
    · refine ⟨2, ⟨by omega, fun _ => h0 (by omega), fun _ => by omega, by omega⟩, by omega, ?_⟩
      refine rRD ?_; apply zN
      exact wkD
  · refine rRD ?_; apply zN
    refine wlD ?_; refine zq1 ⟨fun ht ht => ⟨⟨?_⟩⟩⟩
    refine clD [.ret (.lit (.int .i64 (cmpZ a2 b2)))] ?_; refine zq2 ⟨⟨⟨?_⟩⟩⟩ ⟨⟨⟨?_⟩⟩⟩
    · exact cmp_u _ _
    refine wlD ?_; refine zq2 ⟨fun ht => ⟨⟨?_⟩⟩⟩ ⟨fun ht => ⟨⟨?_⟩⟩⟩
    · have uU := Go.AM.uU; refine cRD ?_; apply zN
      unfold cmp3; rw [if_neg (by have := h0 (by omega); omega), if_neg (by have := h1 (by omega); omega)]
    · refine ⟨3, ⟨by omega, fun _ => h0 (by omega), fun _ => h1 (by omega), fun _ => by omega⟩, by omega, ?_⟩
      refine rRD ?_; apply zN
      exact wkD
  · refine rRD ?_; apply zN
    refine wlD ?_; refine zq1 ⟨fun ht ht => ⟨⟨?_⟩⟩⟩
    have uU := Go.AM.uU; refine cRD ?_; apply zN
    unfold cmp3; rw [if_neg (by have := h0 (by omega); omega), if_neg (by have := h1 (by omega); omega), h2 (by omega)]
end Go.Proofs.T
end
section
namespace Go.Proofs.T
open Go Go.AM Go.Proofs
set_option maxRecDepth 20000
variable {Γ : List (Nat × List AVal)}
structure Mb where
  v : Int
  b : Int
  x : Int
def mbLt (a b : Mb) : Bool := decide (a.v < b.v ∨ (a.v = b.v ∧ (a.b < b.b ∨ (a.b = b.b ∧ a.x < b.x))))
def ask (o : Option Mb) (x : Mb) : Option Mb :=
  match o with
  | none => some x
  | some b => if mbLt x b = true then some x else some b
def bst (o : Option Mb) : Blk :=
  match o with
  | none => mb3 18446744073709551615 18446744073709551615 18446744073709551615
  | some x => mb3 x.v x.b x.x
def smb (o : Option Mb) : Blk := ⟨1, true, [[.lit (.bool o.isSome)]]⟩
theorem bst_pure (o : Option Mb) : (bst o).pure = true := by cases o <;> rfl
theorem smb_pure (o : Option Mb) : (smb o).pure = true := rfl
attribute [go_sem] bst_pure smb_pure
theorem cmp3_lt {a0 a1 a2 b0 b1 b2 : Int} : cmp3 a0 a1 a2 b0 b1 b2 < 0 ↔ (a0 < b0 ∨ (a0 = b0 ∧ (a1 < b1 ∨ (a1 = b1 ∧ a2 < b2)))) := by
  unfold cmp3 cmpZ
  repeat' split
  all_goals omega
theorem least1 (k p q : Nat) (o : Option Mb) (x : Mb) (hp : p < k) (hq : q < k) (hne : p ≠ q) (hv : x.v ≤ 18446744073709551615) (hb : x.b ≤ 1) :
    Tr Tryz.prog Γ 98 k [.agg [.lit (.int .u64 x.v), .lit (.int .u64 x.b), .lit (.int .u64 x.x)], .ptr q 0 0, .ptr p 0 0] [(p, bst o), (q, smb o)] (fun k1 r1 H1 => k1 = k + 1 ∧ r1 = .tup [] ∧ H1 = [(p, bst (ask o x)), (q, smb (ask o x))]) := by
  have hm : x.v < 18446744073709551615 ∨ (x.v = 18446744073709551615 ∧ (x.b < 18446744073709551615 ∨ (x.b = 18446744073709551615 ∧ x.x < 18446744073709551615))) := by omega
  obtain ⟨b0, b1, b2, hbo, hlt⟩ : ∃ b0 b1 b2, bst o = mb3 b0 b1 b2 ∧ (cmp3 x.v x.b x.x b0 b1 b2 < 0 → ask o x = some x) ∧ (¬ cmp3 x.v x.b x.x b0 b1 b2 < 0 → bst (ask o x) = mb3 b0 b1 b2) := by
    cases o with
    | none => exact ⟨18446744073709551615, 18446744073709551615, 18446744073709551615, rfl, fun _ => rfl, fun h => absurd (cmp3_lt.2 hm) h⟩
    | some b =>
      refine ⟨_, _, _, rfl, ?_, fun h => ?_⟩
      · intro h
        rw [cmp3_lt] at h
        simp only [ask]
        rw [if_pos (by simp only [mbLt, decide_eq_true_eq]; exact h)]
      · rw [cmp3_lt] at h
        simp only [ask]
        rw [if_neg (by simp only [mbLt, decide_eq_true_eq]; exact h)]
        rfl
  obtain ⟨hlt1, hlt2⟩ := hlt
  have hsome : (ask o x).isSome = true := by
    cases o with
    | none => rfl
    | some b => simp only [ask]; split <;> rfl
  have hsm : smb o = ⟨1, true, [[.lit (.bool o.isSome)]]⟩ := rfl
  have hsm' : smb (ask o x) = ⟨1, true, [[.lit (.bool true)]]⟩ := by unfold smb; rw [hsome]
  rw [hbo, hsm, hsm']
  refine Tr_at Tryz.func98 rfl 9 rfl (Nat.le_of_ble_eq_true rfl) (W_upM ?_)
  have kp : Kp [0,1,2,3,7] (fun i => i - k) := kpI
  refine wlD ?_; refine zq1 ⟨⟨⟨?_⟩⟩⟩
  refine dlD [.gen (.lit (.int .i64 (cmp3 x.v x.b x.x b0 b1 b2))) (k + 1) [(k, mb3 x.v x.b x.x), (p, mb3 b0 b1 b2)] [(k, mb3 x.v x.b x.x), (p, mb3 b0 b1 b2)]] ?_; refine zq2 ⟨⟨⟨?_⟩⟩⟩ ⟨⟨⟨?_⟩⟩⟩
  · exact scompare (k + 1) k p x.v x.b x.x b0 b1 b2 (by omega) (by omega) (by omega)
  refine wlD ?_; refine zq2 ⟨fun ht => ⟨⟨?_⟩⟩⟩ ⟨fun ht => ⟨⟨?_⟩⟩⟩
  · have e : bst (ask o x) = mb3 x.v x.b x.x := by rw [hlt1 (by omega)]; rfl
    refine ⟨k + 1, [], [(p, bst (ask o x)), (q, ⟨1, true, [[.lit (.bool true)]]⟩)], ?_, _, rfl, rfl, rfl, rfl⟩
    rw [e]
    exact wkD
  · have e : bst (ask o x) = mb3 b0 b1 b2 := hlt2 (by omega)
    refine ⟨k + 1, [], [(p, bst (ask o x)), (q, ⟨1, true, [[.lit (.bool true)]]⟩)], ?_, _, rfl, rfl, rfl, rfl⟩
    rw [e]
    exact wkD
end Go.Proofs.T
end
section
namespace Go.Proofs.T
open Go Go.AM Go.Proofs
set_option maxRecDepth 20000
variable {Γ : List (Nat × List AVal)}
theorem MH_apart {loc : Heap} {m tk tk' : Nat} {L L' : LSt} (h : ∀ i, (i = m ∨ i = m + 1 ∨ i = m + 2 ∨ i = m + 3 ∨ i = m + 5 ∨ i = tk ∨ i = tk' ∨ (m + 6 ≤ i ∧ i < m + 6 + L.sl.length)) → AM.look loc i = none) (hs : L'.sl.length = L.sl.length) : apartH loc (MH m tk L) (MH m tk' L') := fun i hi => by
  refine h i ?_
  rcases hi with hi | hi
  · have := keyB_MH hi; omega
  · have := keyB_MH hi; rw [hs] at this; omega
def tmb (t : Tk) : Mb := ⟨t.v, 0, t.id⟩
def takesL (L : LSt) (g c : Int) (i : Nat) : Bool := (L.tsk i).ready && (decide ((L.tsk i).group = g) && decide ((L.tsk i).cpu = c))
def lT (L : LSt) (g c : Int) : Nat → Option Mb
  | 0 => none
  | i + 1 => if takesL L g c i = true then ask (lT L g c i) (tmb (L.tsk i)) else lT L g c i
def lS (L : LSt) (F : Nat → Option Mb) (g c : Nat) : Nat → Option Mb
  | 0 => lT L g c L.tl.length
  | j + 1 => if L.par (g + 1 + j) = g ∧ (F (g + 1 + j)).isSome = true then ask (lS L F g c j) ⟨(L.sp (g + 1 + j) c).v, 1, ((g + 1 + j : Nat) : Int)⟩ else lS L F g c j
def leastF (L : LSt) : Nat → Nat → Nat → Option Mb
  | 0, _, _ => none
  | f + 1, g, c => lS L (fun h => leastF L f h c) g c (L.sl.length - (g + 1))
def mbc : Option Mb → List AVal
  | none => [.lit (.int .u64 18446744073709551615), .lit (.int .u64 18446744073709551615), .lit (.int .u64 18446744073709551615)]
  | some x => [.lit (.int .u64 x.v), .lit (.int .u64 x.b), .lit (.int .u64 x.x)]
def resL (o : Option Mb) : AVal := .tup [.agg (mbc o), .lit (.bool o.isSome)]
structure Shp (L : LSt) (n : Nat) : Prop where
  ng : L.gl.length = L.sl.length
  rows : ∀ g, g < L.sl.length → (L.sl.getD g []).length = n
  nt : L.tl.length ≤ 100000
  ns : L.sl.length ≤ 1000
  tid : ∀ i, i < L.tl.length → 0 ≤ (L.tsk i).id ∧ (L.tsk i).id ≤ 65535 ∧ (L.tsk i).v ≤ 18446744073709551615
  spv : ∀ g c, g < L.sl.length → c < n → (L.sp g c).v ≤ 18446744073709551615
theorem bst_get (o : Option Mb) : bst o = mb3 (o.elim 18446744073709551615 (·.v)) (o.elim 18446744073709551615 (·.b)) (o.elim 18446744073709551615 (·.x)) := by cases o <;> rfl
theorem mbc_get (o : Option Mb) : mbc o = [.lit (.int .u64 (o.elim 18446744073709551615 (·.v))), .lit (.int .u64 (o.elim 18446744073709551615 (·.b))), .lit (.int .u64 (o.elim 18446744073709551615 (·.x)))] := by cases o <;> rfl
theorem lS_succ {L : LSt} {F : Nat → Option Mb} {g c h : Nat} (hh : g + 1 ≤ h) (h1 : L.par h = g) (h2 : (F h).isSome = true) : lS L F g c (h + 1 - (g + 1)) = ask (lS L F g c (h - (g + 1))) ⟨(L.sp h c).v, 1, (h : Int)⟩ := by
  have e : h + 1 - (g + 1) = (h - (g + 1)) + 1 := by omega
  have e2 : g + 1 + (h - (g + 1)) = h := by omega
  rw [e, lS, e2, if_pos ⟨h1, h2⟩]
theorem lS_skip {L : LSt} {F : Nat → Option Mb} {g c h : Nat} (hh : g + 1 ≤ h) (h1 : ¬ (L.par h = g ∧ (F h).isSome = true)) : lS L F g c (h + 1 - (g + 1)) = lS L F g c (h - (g + 1)) := by
  have e : h + 1 - (g + 1) = (h - (g + 1)) + 1 := by omega
  have e2 : g + 1 + (h - (g + 1)) = h := by omega
  rw [e, lS, e2, if_neg h1]
theorem lT_succ {L : LSt} {g c : Int} {i : Nat} (h : takesL L g c i = true) : lT L g c (i + 1) = ask (lT L g c i) (tmb (L.tsk i)) := by rw [lT, if_pos h]
theorem lT_skip {L : LSt} {g c : Int} {i : Nat} (h : ¬ takesL L g c i = true) : lT L g c (i + 1) = lT L g c i := by rw [lT, if_neg h]
theorem takes_iff {L : LSt} {g c : Int} {i : Nat} : takesL L g c i = true ↔ (L.tsk i).ready = true ∧ (L.tsk i).group = g ∧ (L.tsk i).cpu = c := by simp [takesL]
theorem resL_bd {p : Nat → Bool} (o : Option Mb) : bd p (resL o) = true := by cases o <;> rfl
set_option maxHeartbeats 8000000 in
theorem least (L : LSt) (n c : Nat) (hS : Shp L n) (hc : c < n) (m tk : Nat) (hm : m + 6 + L.sl.length ≤ tk) : ∀ (f g : Nat), g < L.sl.length → L.sl.length - g ≤ f → ∀ k, tk < k →
    Tr Tryz.prog Γ 54 k [.ptr m 0 0, .lit (.int .i64 (g : Int)), .lit (.int .i64 (c : Int))] (MH m tk L) (fun k1 r1 H1 => k1 = k ∧ r1 = resL (leastF L f g c) ∧ H1 = MH m tk L) := by
  obtain ⟨hng, hrw, hnt, hns, htid, hspv⟩ := id hS
  intro f
  induction f with
  | zero => intro g hgS hf; omega
  | succ f ih =>
  intro g hgS hf k hk
  obtain ⟨RH, eRH⟩ : ∃ x, x = MH m tk L := ⟨_, rfl⟩; obtain ⟨RV, eRV⟩ : ∃ x, x = resL (leastF L (f + 1) g c) := ⟨_, rfl⟩; refine Tr.mono (Tr_in (k := k) (V := RV) (RH := RH) (by omega) (by rw [eRV]; exact resL_bd _) (by rw [eRH]; exact MH_lt (by omega) (by omega)) ?_) (fun _ _ _ h => ⟨h.1, h.2.1.trans eRV, h.2.2.trans eRH⟩)
  refine Tr_at Tryz.func54 rfl 102 rfl (Nat.le_of_ble_eq_true rfl) ?_
  simp only [MH, LH]
  have kp : Kp [0,1,2,6,7,8,9,10,12,13,15,22,23,24,25,41,60,74,82] (fun i => i - k) := kpI
  refine wlD ?_; refine zq1 ⟨⟨⟨?_⟩⟩⟩
  refine M_forO (X := Nat) rfl [0,1,2,6,7,8,9,10,12,13,15,22,23,24,25,41,60,74,82] (k + 3) (fun i => [(24, .lit (.int .i64 (i : Int)))]) (fun i => (k + 2, smb (lT L g c i)) :: (k + 1, bst (lT L g c i)) :: (k, mb3 0 0 0) :: MH m tk L) (fun i => i ≤ L.tl.length) (fun i => L.tl.length - i) 0 ?_ (Nat.zero_le _) ?_
  · simp only [MH, LH]
    rw [show lT L g c 0 = none from rfl]
    have uU := zA @bst.eq_1 @smb.eq_1
    refine rRD ?_; apply zN
    exact wkD
  intro i hi
  simp only [MH, LH]
  refine rRD ?_; apply zN
  have e1 : i < L.tl.length → IntKind.u64.wrap (L.tsk i).id = (L.tsk i).id := fun h => by have := htid i h; exact wrap_u64 (by omega) (by omega)
  refine wlD ?_; refine zq5 ⟨fun ht ht => ⟨fun hg hg => ⟨?_⟩⟩⟩ ⟨fun ht ht => ⟨fun hg hg => ⟨?_⟩⟩⟩ ⟨fun ht ht => ⟨fun hg hg => ⟨?_⟩⟩⟩ ⟨fun ht ht => ⟨fun hg => ⟨?_⟩⟩⟩ ⟨fun ht => ⟨⟨?_⟩⟩⟩
  · have e1' := e1 (by omega)
    have hx := htid i (by omega)
    have uU := @e1'
    refine clD [.gen (.tup []) (k + 5) [(k + 1, bst (lT L g c i)), (k + 2, smb (lT L g c i))] [(k + 1, bst (ask (lT L g c i) (tmb (L.tsk i)))), (k + 2, smb (ask (lT L g c i) (tmb (L.tsk i))))]] ?_; refine zq2 ⟨⟨⟨?_⟩⟩⟩ ⟨⟨⟨?_⟩⟩⟩
    · exact least1 (k + 4) (k + 1) (k + 2) (lT L g c i) (tmb (L.tsk i)) (by omega) (by omega) (by omega) hx.2.2 (by show (0 : Int) ≤ 1; omega)
    have uU := Go.AM.uU
    refine wlD ?_; refine zq1 ⟨⟨⟨?_⟩⟩⟩
    refine ⟨i + 1, by omega, by omega, ?_⟩
    rw [lT_succ (takes_iff.2 ⟨by assumption, by assumption, by assumption⟩)]
    refine rRD ?_; apply zN
    exact wkD
  iterate 3
    · refine ⟨i + 1, by omega, by omega, ?_⟩
      rw [lT_skip (by rw [takes_iff]; rintro ⟨a1, a2, a3⟩; first | omega | (simp_all; done))]
      refine rRD ?_; apply zN
      exact wkD
  have hi' : i = L.tl.length := by omega
  subst hi'
  clear hi e1
  refine M_forO (X := Nat) rfl [0,1,2,6,7,8,9,10,12,13,15,22,23,24,25,41,60,74,82] (k + 3) (fun h => [(13, .lit (.int .i64 (h : Int)))]) (fun h => (k + 2, smb (lS L (fun h => leastF L f h c) g c (h - (g + 1)))) :: (k + 1, bst (lS L (fun h => leastF L f h c) g c (h - (g + 1)))) :: (k, mb3 0 0 0) :: MH m tk L) (fun h => g + 1 ≤ h ∧ h ≤ L.sl.length) (fun h => L.sl.length - h) (g + 1) ?_ ⟨Nat.le_refl _, hgS⟩ ?_
  · simp only [MH, LH]
    rw [Nat.sub_self, lS]
    refine rRD ?_; apply zN
    exact wkD
  rintro h ⟨h1, h2⟩
  obtain ⟨o, eo⟩ : ∃ o, o = lS L (fun h => leastF L f h c) g c (h - (g + 1)) := ⟨_, rfl⟩
  rw [← eo]
  simp only [MH, LH]
  refine rRD ?_; apply zN
  refine wlD ?_; refine zq3 ⟨fun ht ht => ⟨⟨?_⟩⟩⟩ ⟨fun ht ht => ⟨⟨?_⟩⟩⟩ ⟨fun ht => ⟨⟨?_⟩⟩⟩
  · refine ⟨h + 1, ⟨by omega, by omega⟩, by omega, ?_⟩
    rw [lS_skip h1 (by rintro ⟨a1, _⟩; omega), ← eo]
    refine rRD ?_; apply zN
    exact wkD
  · have hr := hrw h (by omega)
    have e2 : IntKind.u64.wrap (h : Int) = (h : Int) := wrap_u64 (by omega) (by omega)
    obtain ⟨q, eq⟩ : ∃ q, q = leastF L f h c := ⟨_, rfl⟩
    obtain ⟨q0, q1, q2, hq⟩ : ∃ q0 q1 q2, mbc q = [.lit (.int .u64 q0), .lit (.int .u64 q1), .lit (.int .u64 q2)] := ⟨_, _, _, mbc_get q⟩
    have uU := zA @resL.eq_1 @hq
    refine clD [.far (resL q) (k + 3) [(k + 2, smb o), (k + 1, bst o), (k, mb3 0 0 0)] (MH m tk L) (MH m tk L)] ?_; refine zq4 ⟨⟨⟨?_⟩⟩⟩ ⟨⟨⟨?_⟩⟩⟩ ⟨⟨⟨?_⟩⟩⟩ ⟨⟨⟨?_⟩⟩⟩
    · exact fun _ => rfl
    · exact MH_apart (fun i hi => by simp only [AM.look]; repeat (rw [if_neg (by omega)])) rfl
    · have := ih h (by omega) (by omega) (k + 3) (by omega)
      rw [← eq] at this
      unfold resL at this
      rw [hq] at this
      exact this
    simp only [MH, LH]
    have uU := Go.AM.uU
    refine rRD ?_; apply zN
    have uU := zA @e2 @hr
    refine wlD ?_; refine zq2 ⟨fun ht => ⟨⟨?_⟩⟩⟩ ⟨fun ht => ⟨⟨?_⟩⟩⟩
    · refine clD [.gen (.tup []) (k + 5) [(k + 1, bst o), (k + 2, smb o)] [(k + 1, bst (ask o ⟨(L.sp h c).v, 1, (h : Int)⟩)), (k + 2, smb (ask o ⟨(L.sp h c).v, 1, (h : Int)⟩))]] ?_; refine zq2 ⟨⟨⟨?_⟩⟩⟩ ⟨⟨⟨?_⟩⟩⟩
      · exact least1 (k + 4) (k + 1) (k + 2) o ⟨(L.sp h c).v, 1, (h : Int)⟩ (by omega) (by omega) (by omega) (hspv h c (by omega) hc) (Int.le_refl _)
      have uU := Go.AM.uU
      refine wlD ?_; refine zq1 ⟨⟨⟨?_⟩⟩⟩
      refine ⟨h + 1, ⟨by omega, by omega⟩, by omega, ?_⟩
      rw [lS_succ h1 (by omega) (by rw [← eq]; assumption), ← eo]
      refine rRD ?_; apply zN
      exact wkD
    · refine ⟨h + 1, ⟨by omega, by omega⟩, by omega, ?_⟩
      rw [lS_skip h1 (by rw [← eq]; rintro ⟨_, a1⟩; simp_all), ← eo]
      have uU := Go.AM.uU
      refine rRD ?_; apply zN
      exact wkD
  · have hh : h = L.sl.length := by omega
    have eo' : o = leastF L (f + 1) g c := by rw [eo, hh]; rfl
    rw [← eo'] at eRV
    clear eo eo'
    obtain ⟨q0, q1, q2, hq, hq'⟩ : ∃ q0 q1 q2, bst o = mb3 q0 q1 q2 ∧ mbc o = [.lit (.int .u64 q0), .lit (.int .u64 q1), .lit (.int .u64 q2)] := ⟨_, _, _, bst_get o, mbc_get o⟩
    rw [hq]
    have uU := @smb.eq_1
    refine dlD [] ?_; refine zq1 ⟨⟨⟨?_⟩⟩⟩
    have uU := @smb.eq_1; refine cRD ?_; apply zN
    refine ⟨?_, ?_⟩
    · rw [eRV, resL, hq']
    · rw [eRH]
      simp only [MH, LH]
      exact rRD hdT
end Go.Proofs.T
end
section
namespace Go.Proofs.T
open Go Go.AM Go.Proofs
set_option maxRecDepth 20000
variable {Γ : List (Nat × List AVal)}
theorem cpu (L : LSt) (c : Int) (m tk k : Nat) (hm : m + 6 + L.sl.length ≤ tk) (hk : tk < k) :
    Tr Tryz.prog Γ 65 k [.ptr m 0 0, .lit (.int .i64 c)] (MH m tk L) (fun k1 r1 H1 => k1 = k ∧ r1 = .lit (.bool (decide (0 ≤ c ∧ c < L.cpus))) ∧ H1 = MH m tk L) := by
  obtain ⟨RH, eRH⟩ : ∃ x : Heap, x = MH m tk L := ⟨_, rfl⟩; obtain ⟨RV, eRV⟩ : ∃ x : AVal, x = .lit (.bool (decide (0 ≤ c ∧ c < L.cpus))) := ⟨_, rfl⟩; refine Tr.mono (Tr_in (k := k) (V := RV) (RH := RH) (by omega) (by rw [eRV]; rfl) (by rw [eRH]; exact MH_lt (by omega) (by omega)) ?_) (fun _ _ _ h => ⟨h.1, h.2.1.trans eRV, h.2.2.trans eRH⟩)
  refine Tr_at Tryz.func65 rfl 17 rfl (Nat.le_of_ble_eq_true rfl) ?_
  simp only [MH, LH]
  have kp : Kp [0,1,4] (fun i => i - k) := kpI
  refine wlD ?_; refine zq2 ⟨⟨fun hg => ⟨?_⟩⟩⟩ ⟨⟨fun hg => ⟨?_⟩⟩⟩
  · have uU := Go.AM.uU; refine cRD ?_; apply zN
    refine ⟨?_, ?_⟩
    · rw [eRV]; simp; omega
    · rw [eRH]
      simp only [MH, LH]
      exact rRD hdT
  · have uU := Go.AM.uU; refine cRD ?_; apply zN
    refine ⟨?_, ?_⟩
    · rw [eRV]; simp; omega
    · rw [eRH]
      simp only [MH, LH]
      exact rRD hdT
def Sorted (L : LSt) : Prop := ∀ i j, i < j → j < L.tl.length → (L.tsk i).id < (L.tsk j).id
def FindIs (L : LSt) (id r : Int) : Prop := (r = -1 ∧ ∀ i, i < L.tl.length → (L.tsk i).id ≠ id) ∨ ∃ i : Nat, i < L.tl.length ∧ r = (i : Int) ∧ (L.tsk i).id = id
theorem find_ex (L : LSt) (id : Int) : ∃ r, FindIs L id r := by
  by_cases h : ∃ i, i < L.tl.length ∧ (L.tsk i).id = id
  · obtain ⟨i, h1, h2⟩ := h
    exact ⟨i, .inr ⟨i, h1, rfl, h2⟩⟩
  · exact ⟨-1, .inl ⟨rfl, fun i h1 h2 => h ⟨i, h1, h2⟩⟩⟩
def PosIs (L : LSt) (id : Int) (p : Nat) : Prop := p ≤ L.tl.length ∧ (∀ q, q < p → (L.tsk q).id < id) ∧ ∀ q, p ≤ q → q < L.tl.length → id ≤ (L.tsk q).id
theorem cmpZ_neg {a b : Int} : cmpZ a b < 0 ↔ a < b := by unfold cmpZ; split <;> (try split) <;> omega
theorem cmpZ_zero {a b : Int} : cmpZ a b = 0 ↔ a = b := by unfold cmpZ; split <;> (try split) <;> omega
theorem bsearch (L : LSt) (id : Int) (p : Nat) (hp : PosIs L id p) (hso : Sorted L) (hnt : L.tl.length ≤ 100000) (tk k : Nat) (hk : tk < k) :
    Tr Tryz.prog Γ 95 k [.sl tk 0 L.tl.length, .lit (.int .i64 id), .fn 96 []] [(tk, ⟨8, true, tlR L⟩)]
      (fun k1 r1 H1 => k1 = k ∧ r1 = .tup [.lit (.int .i64 (p : Int)), .lit (.bool (decide (p < L.tl.length ∧ (L.tsk p).id = id)))] ∧ H1 = [(tk, ⟨8, true, tlR L⟩)]) := by
  refine Tr_at Tryz.func95 rfl 49 rfl (Nat.le_of_ble_eq_true rfl) ?_
  have kp : Kp [0,1,2,6,7,8,9,10,11,17,31] (fun i => i - k) := kpI
  refine wlD ?_; refine zq1 ⟨⟨⟨?_⟩⟩⟩
  refine M_forO (X := Nat × Nat) rfl [0,1,2,6,7,8,9,10,11,17,31] k (fun x => [(9, .lit (.int .i64 (x.1 : Int))), (10, .lit (.int .i64 (x.2 : Int)))]) (fun x => [(tk, ⟨8, true, tlR L⟩)]) (fun x => x.1 ≤ x.2 ∧ x.2 ≤ L.tl.length ∧ x.1 ≤ p ∧ p ≤ x.2) (fun x => x.2 - x.1) (0, L.tl.length) ?_ ⟨Nat.zero_le _, Nat.le_refl _, Nat.zero_le _, hp.1⟩ ?_
  · refine rRD ?_; apply zN
    exact wkD
  rintro ⟨i, j⟩ ⟨h1, h2, h3, h4⟩
  simp only [] at h1 h2 h3 h4
  have e1 : IntKind.u64.wrap ((i : Int) + (j : Int)) = (i : Int) + (j : Int) := wrap_u64 (by omega) (by omega)
  have e2 : ((i : Int) + (j : Int)).fdiv (2 ^ min 1 64) = (((i + j) / 2 : Nat) : Int) := by rw [show (2 : Int) ^ min 1 64 = 2 from rfl, Int.fdiv_eq_ediv_of_nonneg _ (by omega)]; omega
  obtain ⟨h, eh⟩ : ∃ h, h = (i + j) / 2 := ⟨_, rfl⟩
  rw [← eh] at e2
  have e3 : IntKind.i64.wrap (h : Int) = (h : Int) := wrap_i64 (by omega) (by omega)
  refine rRD ?_; apply zN
  have uU := zA @e1 (zA @e2 @e3)
  refine wlD ?_; refine zq2 ⟨fun ht => ⟨⟨?_⟩⟩⟩ ⟨fun ht => ⟨⟨?_⟩⟩⟩
  · refine clD [.ret (.lit (.int .i64 (cmpZ (L.tsk h).id id)))] ?_; refine zq2 ⟨⟨⟨?_⟩⟩⟩ ⟨⟨⟨?_⟩⟩⟩
    · exact find1 (L.tsk h) id
    refine wlD ?_; refine zq2 ⟨fun ht => ⟨⟨?_⟩⟩⟩ ⟨fun ht => ⟨⟨?_⟩⟩⟩
    · have hc := cmpZ_neg.1 ht
      have : h < p := Nat.lt_of_not_le fun e => by have := hp.2.2 h e (by omega); omega
      refine ⟨(h + 1, j), ⟨by show h + 1 ≤ j; omega, h2, by show h + 1 ≤ p; omega, h4⟩, by show j - (h + 1) < j - i; omega, ?_⟩
      refine rRD ?_; apply zN
      exact wkD
    · have hc : ¬ (L.tsk h).id < id := fun e => by have := cmpZ_neg.2 e; omega
      have : p ≤ h := Nat.le_of_not_lt fun e => hc (hp.2.1 h e)
      refine ⟨(i, h), ⟨by show i ≤ h; omega, by show h ≤ L.tl.length; omega, h3, this⟩, by show h - i < j - i; omega, ?_⟩
      refine rRD ?_; apply zN
      exact wkD
  · have hi : i = p := by omega
    subst hi
    refine clD [.ret (.lit (.int .i64 (cmpZ (L.tsk i).id id)))] ?_; refine zq3 ⟨⟨fun hg => ⟨?_⟩⟩⟩ ⟨⟨fun hg => ⟨?_⟩⟩⟩ ⟨⟨fun hg => ⟨?_⟩⟩⟩
    · exact find1 (L.tsk i) id
    · have uU := zA @e1 (zA @e2 @e3); refine cRD ?_; apply zN
      rw [show (cmpZ (L.tsk i).id id == 0) = decide (i < L.tl.length ∧ (L.tsk i).id = id) by
        rw [Bool.eq_iff_iff, beq_iff_eq, decide_eq_true_eq, cmpZ_zero]; constructor
        · intro h; exact ⟨by omega, h⟩
        · exact fun h => h.2]
    · have uU := zA @e1 (zA @e2 @e3); refine cRD ?_; apply zN
      rw [decide_eq_false (by rintro ⟨h, _⟩; omega)]
theorem pos_ex (L : LSt) (hso : Sorted L) (id : Int) : ∃ p, PosIs L id p := by
  suffices h : ∀ n, n ≤ L.tl.length → ∃ p, p ≤ n ∧ (∀ q, q < p → (L.tsk q).id < id) ∧ ∀ q, p ≤ q → q < n → id ≤ (L.tsk q).id by
    obtain ⟨p, h1, h2, h3⟩ := h L.tl.length (Nat.le_refl _)
    exact ⟨p, h1, h2, h3⟩
  intro n
  induction n with
  | zero => intro _; exact ⟨0, Nat.le_refl _, fun q hq => absurd hq (Nat.not_lt_zero _), fun q _ hq => absurd hq (Nat.not_lt_zero _)⟩
  | succ n ih =>
    intro hn
    obtain ⟨p, h1, h2, h3⟩ := ih (by omega)
    by_cases hc : (L.tsk n).id < id
    · refine ⟨n + 1, Nat.le_refl _, fun q hq => ?_, fun q h4 h5 => by omega⟩
      by_cases he : q = n
      · rw [he]; exact hc
      · have := hso q n (by omega) (by omega); omega
    · refine ⟨p, by omega, h2, fun q h4 h5 => ?_⟩
      by_cases he : q = n
      · rw [he]; omega
      · exact h3 q h4 (by omega)
theorem find (L : LSt) (id r : Int) (hr : FindIs L id r) (hso : Sorted L) (hnt : L.tl.length ≤ 100000) (m tk k : Nat) (hm : m + 6 + L.sl.length ≤ tk) (hk : tk < k) :
    Tr Tryz.prog Γ 53 k [.ptr m 0 0, .lit (.int .i64 id)] (MH m tk L) (fun k1 r1 H1 => k1 = k ∧ r1 = .lit (.int .i64 r) ∧ H1 = MH m tk L) := by
  obtain ⟨p, hp⟩ := pos_ex L hso id
  have hrp : r = if p < L.tl.length ∧ (L.tsk p).id = id then (p : Int) else -1 := by
    rcases hr with ⟨rfl, h⟩ | ⟨i, h1, rfl, h2⟩
    · rw [if_neg (fun e => h p e.1 e.2)]
    · have : p = i := by
        rcases Nat.lt_trichotomy p i with hc | hc | hc
        · have := hp.2.2 p (Nat.le_refl _) (by omega); have := hso p i hc h1; omega
        · exact hc
        · have := hp.2.1 i hc; omega
      subst this
      rw [if_pos ⟨h1, h2⟩]
  obtain ⟨RH, eRH⟩ : ∃ x : Heap, x = MH m tk L := ⟨_, rfl⟩; obtain ⟨RV, eRV⟩ : ∃ x : AVal, x = .lit (.int .i64 r) := ⟨_, rfl⟩; refine Tr.mono (Tr_in (k := k) (V := RV) (RH := RH) (by omega) (by rw [eRV]; rfl) (by rw [eRH]; exact MH_lt (by omega) (by omega)) ?_) (fun _ _ _ h => ⟨h.1, h.2.1.trans eRV, h.2.2.trans eRH⟩)
  refine Tr_at Tryz.func53 rfl 20 rfl (Nat.le_of_ble_eq_true rfl) ?_
  simp only [MH, LH]
  have kp : Kp [0,1,4,5,6,18] (fun i => i - k) := kpI
  refine wlD ?_; refine zq1 ⟨⟨⟨?_⟩⟩⟩
  refine clD [.gen (.tup [.lit (.int .i64 (p : Int)), .lit (.bool (decide (p < L.tl.length ∧ (L.tsk p).id = id)))]) k [(tk, ⟨8, true, tlR L⟩)] [(tk, ⟨8, true, tlR L⟩)]] ?_; refine zq2 ⟨⟨⟨?_⟩⟩⟩ ⟨⟨⟨?_⟩⟩⟩
  · exact bsearch L id p hp hso hnt tk k hk
  refine wlD ?_; refine zq2 ⟨fun ht => ⟨⟨?_⟩⟩⟩ ⟨fun ht => ⟨⟨?_⟩⟩⟩
  · have uU := Go.AM.uU; refine cRD ?_; apply zN
    refine ⟨?_, ?_⟩
    · rw [eRV, hrp, if_neg (by omega)]
    · rw [eRH]
      simp only [MH, LH]
      exact rRD hdT
  · have uU := Go.AM.uU; refine cRD ?_; apply zN
    refine ⟨?_, ?_⟩
    · rw [eRV, hrp, if_pos (by omega)]
    · rw [eRH]
      simp only [MH, LH]
      exact rRD hdT
end Go.Proofs.T
end
section
namespace Go.Proofs.T
open Go Go.AM Go.Proofs
set_option maxRecDepth 20000
variable {Γ : List (Nat × List AVal)}
theorem ask_mem {o : Option Mb} {x y : Mb} (h : ask o x = some y) : y = x ∨ o = some y := by
  cases o with
  | none => exact .inl (by simp only [ask, Option.some.injEq] at h; exact h.symm)
  | some b =>
    simp only [ask] at h
    split at h
    · exact .inl (by simpa using h.symm)
    · exact .inr h
theorem lT_mem {L : LSt} {g c : Int} {y : Mb} : ∀ {i : Nat}, lT L g c i = some y → ∃ j, j < i ∧ takesL L g c j = true ∧ y = tmb (L.tsk j)
  | 0, h => by cases h
  | i + 1, h => by
    rw [lT] at h
    split at h
    · rcases ask_mem h with h1 | h1
      · exact ⟨i, by omega, by assumption, h1⟩
      · obtain ⟨j, h2, h3⟩ := lT_mem h1
        exact ⟨j, by omega, h3⟩
    · obtain ⟨j, h2, h3⟩ := lT_mem h
      exact ⟨j, by omega, h3⟩
theorem lS_mem {L : LSt} {F : Nat → Option Mb} {g c : Nat} {y : Mb} : ∀ {i : Nat}, lS L F g c i = some y → (∃ j, j < L.tl.length ∧ takesL L g c j = true ∧ y = tmb (L.tsk j)) ∨ ∃ h, g < h ∧ h < g + 1 + i ∧ L.par h = g ∧ (F h).isSome = true ∧ y = ⟨(L.sp h c).v, 1, (h : Int)⟩
  | 0, h => .inl (lT_mem h)
  | i + 1, h => by
    rw [lS] at h
    split at h
    · rcases ask_mem h with h1 | h1
      · rename_i hh
        exact .inr ⟨g + 1 + i, by omega, by omega, hh.1, hh.2, h1⟩
      · rcases lS_mem h1 with h2 | ⟨j, h2, h3, h4⟩
        · exact .inl h2
        · exact .inr ⟨j, h2, by omega, h4⟩
    · rcases lS_mem h with h2 | ⟨j, h2, h3, h4⟩
      · exact .inl h2
      · exact .inr ⟨j, h2, by omega, h4⟩
theorem lS_congr {L : LSt} {F G : Nat → Option Mb} {g c : Nat} : ∀ {i : Nat}, (∀ h, g < h → h < g + 1 + i → F h = G h) → lS L F g c i = lS L G g c i
  | 0, _ => rfl
  | i + 1, h => by rw [lS, lS, h (g + 1 + i) (by omega) (by omega), lS_congr (fun j h1 h2 => h j h1 (by omega))]
theorem leastF_fuel {L : LSt} : ∀ {f f' g c : Nat}, L.sl.length - g ≤ f → L.sl.length - g ≤ f' → g < L.sl.length → leastF L f g c = leastF L f' g c
  | 0, _, g, c, h, _, hg => by omega
  | _ + 1, 0, g, c, _, h, hg => by omega
  | f + 1, f' + 1, g, c, h, h', hg => by
    rw [leastF, leastF]
    exact lS_congr fun j h1 h2 => leastF_fuel (by omega) (by omega) (by omega)
def lst (L : LSt) (g c : Nat) : Option Mb := leastF L L.sl.length g c
theorem lst_mem {L : LSt} {g c : Nat} {y : Mb} (hg : g < L.sl.length) (h : lst L g c = some y) : (∃ j, j < L.tl.length ∧ takesL L g c j = true ∧ y = tmb (L.tsk j)) ∨ ∃ h, g < h ∧ h < L.sl.length ∧ L.par h = g ∧ (lst L h c).isSome = true ∧ y = ⟨(L.sp h c).v, 1, (h : Int)⟩ := by
  unfold lst at h
  obtain ⟨n, hn⟩ : ∃ n, L.sl.length = n + 1 := ⟨L.sl.length - 1, by omega⟩
  rw [hn, leastF] at h
  rcases lS_mem h with h1 | ⟨j, h1, h2, h3, h4, h5⟩
  · exact .inl h1
  · refine .inr ⟨j, h1, by omega, h3, ?_, h5⟩
    rw [lst, hn, ← leastF_fuel (f := n) (by omega) (by omega) (by omega)]
    exact h4
theorem lst_is (L : LSt) (n c : Nat) (hS : Shp L n) (hc : c < n) (m tk : Nat) (hm : m + 6 + L.sl.length ≤ tk) (g : Nat) (hg : g < L.sl.length) (k : Nat) (hk : tk < k) :
    Tr Tryz.prog Γ 54 k [.ptr m 0 0, .lit (.int .i64 (g : Int)), .lit (.int .i64 (c : Int))] (MH m tk L) (fun k1 r1 H1 => k1 = k ∧ r1 = resL (lst L g c) ∧ H1 = MH m tk L) :=
  least L n c hS hc m tk hm L.sl.length g hg (by omega) k hk
def firstF (L : LSt) : Nat → Nat → Nat → Int
  | 0, _, _ => 0
  | f + 1, g, c => match lst L g c with
    | none => 0
    | some x => if x.b = 0 then x.x else firstF L f x.x.toNat c
theorem firstF_mem {L : LSt} {c : Nat} : ∀ {f g : Nat}, g < L.sl.length → firstF L f g c = 0 ∨ ∃ j, j < L.tl.length ∧ (L.tsk j).ready = true ∧ (L.tsk j).cpu = c ∧ firstF L f g c = (L.tsk j).id
  | 0, _, _ => .inl rfl
  | f + 1, g, hg => by
    rw [firstF]
    cases hl : lst L g c with
    | none => exact .inl rfl
    | some x =>
      simp only []
      rcases lst_mem hg hl with ⟨j, h1, h2, rfl⟩ | ⟨h, h1, h2, h3, h4, rfl⟩
      · rw [takes_iff] at h2
        exact .inr ⟨j, h1, h2.1, h2.2.2, if_pos rfl⟩
      · rw [if_neg (by show ¬ (1 : Int) = 0; omega)]
        exact firstF_mem h2
def wtL (L : LSt) (c : Int) : Nat → Int
  | 0 => 0
  | i + 1 => if (L.tsk i).ready = true ∧ (L.tsk i).cpu = c then IntKind.i64.wrap (wtL L c i + (L.tsk i).weight) else wtL L c i
set_option maxHeartbeats 8000000 in
theorem weight (L : LSt) (c : Int) (m tk k : Nat) (hm : m + 6 + L.sl.length ≤ tk) (hk : tk < k) (hnt : L.tl.length ≤ 100000) :
    Tr Tryz.prog Γ 84 k [.ptr m 0 0, .lit (.int .i64 c)] (MH m tk L) (fun k1 r1 H1 => k1 = k ∧ r1 = .lit (.int .i64 (wtL L c L.tl.length)) ∧ H1 = MH m tk L) := by
  obtain ⟨RH, eRH⟩ : ∃ x : Heap, x = MH m tk L := ⟨_, rfl⟩; obtain ⟨RV, eRV⟩ : ∃ x : AVal, x = .lit (.int .i64 (wtL L c L.tl.length)) := ⟨_, rfl⟩; refine Tr.mono (Tr_in (k := k) (V := RV) (RH := RH) (by omega) (by rw [eRV]; rfl) (by rw [eRH]; exact MH_lt (by omega) (by omega)) ?_) (fun _ _ _ h => ⟨h.1, h.2.1.trans eRV, h.2.2.trans eRH⟩)
  refine Tr_at Tryz.func84 rfl 32 rfl (Nat.le_of_ble_eq_true rfl) ?_
  simp only [MH, LH]
  have kp : Kp [0,1,4,5,7,12,13,14,15,25] (fun i => i - k) := kpI
  refine wlD ?_; refine zq1 ⟨⟨⟨?_⟩⟩⟩
  refine M_forO (X := Nat) rfl [0,1,4,5,7,12,13,14,15,25] k (fun i => [(14, .lit (.int .i64 (i : Int))), (5, .lit (.int .i64 (wtL L c i)))]) (fun i => MH m tk L) (fun i => i ≤ L.tl.length) (fun i => L.tl.length - i) 0 ?_ (Nat.zero_le _) ?_
  · simp only [MH, LH]
    rw [wtL]
    refine rRD ?_; apply zN
    exact wkD
  intro i hi
  have hw1 : (L.tsk i).ready = true ∧ (L.tsk i).cpu = c → wtL L c (i + 1) = IntKind.i64.wrap (wtL L c i + (L.tsk i).weight) := fun h => by rw [wtL, if_pos h]
  have hw2 : ¬ ((L.tsk i).ready = true ∧ (L.tsk i).cpu = c) → wtL L c (i + 1) = wtL L c i := fun h => by rw [wtL, if_neg h]
  obtain ⟨w, ew⟩ : ∃ w, w = wtL L c i := ⟨_, rfl⟩
  rw [← ew] at hw1 hw2
  rw [← ew]
  simp only [MH, LH]
  refine rRD ?_; apply zN
  refine wlD ?_; refine zq4 ⟨fun ht ht => ⟨fun hg => ⟨?_⟩⟩⟩ ⟨fun ht ht => ⟨fun hg => ⟨?_⟩⟩⟩ ⟨fun ht ht => ⟨fun hg => ⟨?_⟩⟩⟩ ⟨fun ht => ⟨⟨?_⟩⟩⟩
  · refine ⟨i + 1, by omega, by omega, ?_⟩
    rw [hw1 ⟨by assumption, by assumption⟩]
    refine rRD ?_; apply zN
    exact wkD
  iterate 2
    · refine ⟨i + 1, by omega, by omega, ?_⟩
      rw [hw2 (by rintro ⟨a1, a2⟩; first | omega | (simp_all; done))]
      refine rRD ?_; apply zN
      exact wkD
  · have hi' : i = L.tl.length := by omega
    subst hi'
    have uU := Go.AM.uU; refine cRD ?_; apply zN
    refine ⟨?_, ?_⟩
    · rw [eRV, ew]
    · rw [eRH]
      simp only [MH, LH]
      exact rRD hdT
end Go.Proofs.T
end
