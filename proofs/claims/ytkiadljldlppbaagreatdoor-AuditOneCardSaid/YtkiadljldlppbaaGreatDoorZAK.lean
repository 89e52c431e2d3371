import Derived.Test.YtkiadljldlppbaaGreatDoorZAJ
set_option linter.unusedVariables false
set_option linter.unusedSimpArgs false
section
namespace Go.Proofs.T
open Go Go.AM Go.Proofs
set_option maxRecDepth 20000
variable {Γ : List (Nat × List AVal)}
theorem clone_rows {R : List (List AVal)} {n : Nat} {f : Nat → List AVal} (hn : R.length = n) (hf : ∀ i, i < n → R[i]? = some (f i)) : R = (List.range n).map f := List.ext_getElem? fun i => by
  by_cases h : i < n
  · rw [hf i h]; simp [h]
  · rw [List.getElem?_eq_none (by omega), List.getElem?_eq_none (by simp; omega)]
set_option maxHeartbeats 2000000 in
theorem cloneG (R : List (List AVal)) (n : Nat) (f : Nat → List AVal) (id k : Nat) (hn : R.length = n) (hn0 : 0 < n) (hn2 : n ≤ 100000) (hone : (R.all fun row => row.all AM.one) = true) (hf : ∀ i, i < n → R[i]? = some (f i)) (hk : id < k) :
    Tr Tryz.prog Γ 61 k [.sl id 0 n] [(id, ⟨2, true, R⟩)] (fun k1 r1 H1 => k1 = k + 2 ∧ r1 = .rd 2 n f ∧ H1 = [(id, ⟨2, true, R⟩)]) := by
  have hR : R = (List.range n).map f := clone_rows hn hf
  obtain ⟨RH, eRH⟩ : ∃ x : Heap, x = [(id, ⟨2, true, R⟩)] := ⟨_, rfl⟩
  refine Tr.mono (Tr_in (kk := k + 2) (V := .rd 2 n f) (RH := RH) (by omega) rfl (by rw [eRH]; exact bdH_cons1 (by simp only [ltB, decide_eq_true_eq]; omega) rfl) ?_) (fun _ _ _ h => ⟨h.1, h.2.1, h.2.2.trans eRH⟩)
  have hle : (n ≤ R.length) = True := eq_true (by omega)
  have htk : List.take n R = R := List.take_of_length_le (by omega)
  have hne : ¬ n = 0 := by omega
  refine Tr_at Tryz.func61 rfl 8 rfl (Nat.le_of_ble_eq_true rfl) ?_
  have kp : Kp [0,2,4] (fun i => i - k) := kpI
  have uU := zA @hle (zA @htk (zA @hone (zA @hne @hn0)))
  refine wlD ?_; refine zq1 ⟨fun ht => ⟨⟨?_⟩⟩⟩
  refine W_mv (Mv.freeze (k + 1) (B := ⟨2, true, R⟩) (by simp (disch := omega) only [AM.look, nq0, ↓reduceIte]) rfl) ?_
  simp -dsimp -implicitDefEqProofs only [frzF, frz_app, go_sem, hle, htk, hone, hne, hn0, eq_self, ↓reduceIte]
  refine W_mv (Mv_tmp 2 rfl (by rw [hR]; exact VLe.copy' _ _ _)) ?_
  refine rRD ?_; apply zN
  have uU := zA @hle (zA @htk (zA @hone (zA @hne @hn0))); refine cRD ?_; apply zN
  refine ⟨rfl, ?_⟩
  rw [eRH]
  exact rRD hdT
set_option maxHeartbeats 2000000 in
theorem cloneT0 (R : List (List AVal)) (f : Nat → List AVal) (id k : Nat) (hk : id < k) :
    Tr Tryz.prog Γ 63 k [.sl id 0 0] [(id, ⟨8, true, R⟩)] (fun k1 r1 H1 => k1 = k + 2 ∧ r1 = .rd 8 0 f ∧ H1 = [(id, ⟨8, true, R⟩)]) := by
  obtain ⟨RH, eRH⟩ : ∃ x : Heap, x = [(id, ⟨8, true, R⟩)] := ⟨_, rfl⟩
  refine Tr.mono (Tr_in (kk := k + 2) (V := .rd 8 0 f) (RH := RH) (by omega) rfl (by rw [eRH]; exact bdH_cons1 (by simp only [ltB, decide_eq_true_eq]; omega) rfl) ?_) (fun _ _ _ h => ⟨h.1, h.2.1, h.2.2.trans eRH⟩)
  refine Tr_at Tryz.func63 rfl 8 rfl (Nat.le_of_ble_eq_true rfl) ?_
  refine W_cap 0 rfl look_one (fun _ => ?_) (fun cap hc1 hc2 => ?_)
  · refine rRD ?_; apply zN
    have kp : Kp [0,2,4] (fun i => i - k) := kpI
    refine wlD ?_; refine zq1 ⟨fun ht => ⟨⟨?_⟩⟩⟩
    refine W_mv (Mv_tmp 2 rfl (VLe.nil 8 f)) ?_
    refine rRD ?_; apply zN
    have uU := Go.AM.uU; refine cRD ?_; apply zN
    refine ⟨rfl, ?_⟩
    rw [eRH]
    exact rRD hdT
  · refine rRD ?_; apply zN
    have kp : Kp [0,2,4] (fun i => i - k) := kpI
    refine wlD ?_; refine zq1 ⟨⟨⟨?_⟩⟩⟩
    refine clD [.raw (some 4) ⟨.lit (.bool false), k, [], [id]⟩] ?_; refine zq2 ⟨⟨⟨?_⟩⟩⟩ ⟨⟨⟨?_⟩⟩⟩
    · exact slcNil_good (e := 70) rfl (by kernel_rfl) rfl look_one rfl
    refine wlD ?_; refine zq1 ⟨fun ht => ⟨⟨?_⟩⟩⟩
    refine W_mv (slc_lt 0 rfl) ?_
    refine rRD ?_; apply zN
    refine wlD ?_; refine zq1 ⟨⟨⟨?_⟩⟩⟩
    refine W_mv (Mv.freeze k (B := ⟨8, true, []⟩) (by simp (disch := omega) only [AM.look, nq0, ↓reduceIte]) rfl) ?_
    simp -dsimp -implicitDefEqProofs only [frzF, frz_app, go_sem, eq_self, ↓reduceIte]
    refine W_mv (Mv_tmp (v := .rd 8 0 f) 2 rfl (VLe.rd fun i hi => absurd hi (Nat.not_lt_zero _))) ?_
    refine rRD ?_; apply zN
    have uU := Go.AM.uU; refine cRD ?_; apply zN
    refine ⟨rfl, ?_⟩
    rw [eRH]
    exact rRD hdT
theorem fam_map {f s n : Nat} {R : Nat → List (List AVal)} {id : Nat} {B : Blk} : (fam f s n R).map (fun x => (x.1, frzB id B x.2)) = fam f s n R := by
  induction n generalizing f R with
  | zero => rfl
  | succ n ih =>
    simp only [fam, List.map_cons]
    rw [ih]
    rfl
theorem frzH_fam {f s n : Nat} {R : Nat → List (List AVal)} {id : Nat} {B : Blk} (h : id < f ∨ f + n ≤ id) : frzH id B (fam f s n R) = fam f s n R := by
  unfold frzH
  rw [del_famO h, fam_map]
theorem ouR_frz {m a : Nat} {L : LSt} {B : Blk} (h : m + 6 + L.sl.length ≤ a) : (ouR m L).map (fun row => row.map (frz0 a B)) = ouR m L := by
  unfold ouR
  rw [List.map_map]
  refine List.map_congr_left fun g hg => ?_
  have := List.mem_range.1 hg
  simp only [Function.comp, ouF, List.map_cons, List.map_nil, frz0]
  rw [if_neg (by omega)]
attribute [go_sem] frzH_fam ouR_frz
theorem slR_one (L : LSt) (g : Nat) : ((slR L g).all fun row => row.all AM.one) = true := by
  rw [List.all_eq_true]
  intro row h
  simp only [slR, List.mem_map] at h
  obtain ⟨t, _, rfl⟩ := h
  rfl
set_option maxHeartbeats 4000000 in
theorem cloneS (L : LSt) (g n : Nat) (m tk k : Nat) (hm : m + 6 + L.sl.length ≤ tk) (hk : tk < k) (hg : g < L.sl.length) (hn : (L.sl.getD g []).length = n) (hn0 : 0 < n) (hn2 : n ≤ 1000) :
    Tr Tryz.prog Γ 64 k [.sl (m + (6 + g)) 0 n] (MH m tk L) (fun k1 r1 H1 => k1 = k + 2 ∧ r1 = .rd 3 n (sf L.st g) ∧ H1 = MH m tk L) := by
  obtain ⟨RH, eRH⟩ : ∃ x : Heap, x = MH m tk L := ⟨_, rfl⟩
  refine Tr.mono (Tr_in (kk := k + 2) (V := .rd 3 n (sf L.st g)) (RH := RH) (by omega) rfl (by rw [eRH]; exact MH_lt (by omega) (by omega)) ?_) (fun _ _ _ h => ⟨h.1, h.2.1, h.2.2.trans eRH⟩)
  have hl : (slR L g).length = n := by rw [slR_len, hn]
  have hR : slR L g = (List.range n).map (sf L.st g) := clone_rows hl (fun i hi => by rw [slR_get (by rw [hn]; exact hi)]; rfl)
  obtain ⟨R, eR⟩ : ∃ R, R = slR L g := ⟨_, rfl⟩
  have hle : (n ≤ (slR L g).length) = True := eq_true (by omega)
  have htk : List.take n (slR L g) = slR L g := List.take_of_length_le (by omega)
  have hone := slR_one L g
  have hne : ¬ n = 0 := by omega
  refine Tr_at Tryz.func64 rfl 8 rfl (Nat.le_of_ble_eq_true rfl) ?_
  simp only [MH, LH]
  have kp : Kp [0,2,4] (fun i => i - k) := kpI
  have uU := zA @hn (zA @hle (zA @htk (zA @hone (zA @hne @hn0))))
  refine wlD ?_; refine zq1 ⟨fun ht => ⟨⟨?_⟩⟩⟩
  refine W_mv (Mv.freeze (k + 1) (B := ⟨3, true, slR L g⟩) (by simp (disch := omega) only [AM.look, nq0, ↓reduceIte]) rfl) ?_
  simp -dsimp -implicitDefEqProofs only [frzF, frz_app, go_sem, hn, hle, htk, hone, hne, hn0, eq_self, ↓reduceIte]
  refine W_mv (Mv_tmp 2 rfl (by rw [hR]; exact VLe.copy' _ _ _)) ?_
  refine rRD ?_; apply zN
  have uU := zA @hn (zA @hle (zA @htk (zA @hone (zA @hne @hn0)))); refine cRD ?_; apply zN
  refine ⟨rfl, ?_⟩
  rw [eRH]
  simp only [MH, LH]
  exact rRD hdT
end Go.Proofs.T
end
section
namespace Go.Proofs.T
open Go Go.AM Go.Proofs
set_option maxRecDepth 20000
variable {Γ : List (Nat × List AVal)}
theorem accH_app {id s : Nat} {l : List (List AVal)} {H : Heap} : accH id s l [] ++ H = accH id s l H := by cases l <;> rfl
theorem famIn_acc {id t s f n : Nat} {l : List (List AVal)} {H : Heap} {R : Nat → List (List AVal)} (h : id < f ∨ f + n ≤ id) : famIn (accH id t l H) f s n R = famIn H f s n R := by
  cases l with
  | nil => rfl
  | cons a r => exact famIn_cons h
attribute [go_sem] famIn_acc
theorem app2 {a b k id : Nat} {A B : Blk} {H : Heap} {l : List (List AVal)} {y : Option AVal} (h1 : a ≠ id) (h2 : b ≠ id) (hid : id < k) :
    aAppend Tryz.prog (AM.look ((a, A) :: (b, B) :: accH id 1 l H)) k 41 (some (accV id l)) y = appR 1 8 k id l (y.bind (aSrc (AM.look ((a, A) :: (b, B) :: accH id 1 l H)))) :=
  app_acc y3 (by rw [accIn_cons h1, accIn_cons h2, accIn_self]; trivial) hid
theorem updH_accMH {m tk n id s t : Nat} {l : List (List AVal)} {B0 B1 B2 B3 B5 B6 : Blk} {R : Nat → List (List AVal)} (h1 : tk < id) (h2 : m + 6 + n ≤ tk) :
    updH (accH id s l ((m, B0) :: (m + 1, B1) :: (m + 2, B2) :: (m + 3, B3) :: (m + 5, B5) :: (tk, B6) :: fam (m + 6) t n R)) (accDel id l) = (m, B0) :: (m + 1, B1) :: (m + 2, B2) :: (m + 3, B3) :: (m + 5, B5) :: (tk, B6) :: fam (m + 6) t n R := by
  refine updH_acc ?_
  simp only [del]
  repeat rw [if_neg (by omega)]
  rw [del_famO (by omega)]
theorem ouR_sw {m a b : Nat} {L : LSt} (h1 : m + 6 + L.sl.length ≤ a) (h2 : m + 6 + L.sl.length ≤ b) : (ouR m L).map (fun row => row.map (sw0 a b)) = ouR m L := by
  unfold ouR
  rw [List.map_map]
  refine List.map_congr_left fun g hg => ?_
  have := List.mem_range.1 hg
  simp only [Function.comp, ouF, List.map_cons, List.map_nil, sw0, sw]
  rw [if_neg (by omega), if_neg (by omega)]
attribute [go_sem] app2 updH_accMH ouR_sw
theorem wgD {kb k : Nat} {fr : Fr} {H : Heap} {k1 : Nat} {fr1 : Fr} {H1 : Heap} (hb : kb ≤ k1 := by omega) (hf : leF fr fr1 := by simp -dsimp -implicitDefEqProofs (disch := omega) only [go_sem, nq0, List.map_append, eq_self, ↓reduceIte]) (hH : leH H H1 := by simp -dsimp -implicitDefEqProofs (disch := omega) only [go_sem, nq0, List.map_append, eq_self, ↓reduceIte]) (h : bdF (ltB k1) fr1 = true := by simp -dsimp -implicitDefEqProofs (disch := omega) only [go_sem, nq0, nq5, ltB_iff, List.map_append, eq_self, ↓reduceIte]) (h' : bdH (ltB k1) H1 = true := by simp -dsimp -implicitDefEqProofs (disch := omega) only [go_sem, nq0, nq5, ltB_iff, List.map_append, eq_self, ↓reduceIte]) : WkG kb k fr H k1 fr1 H1 :=
  wk_low hb hf hH h h'
def emptyF (L : LSt) : Nat → Nat → Nat → List Nat
  | 0, _, _ => []
  | f + 1, g, c => if g = 0 then [] else if (lst L g c).isSome = true then [] else g :: emptyF L f (L.par g).toNat c
theorem emptyF_mem {L : LSt} {n c : Nat} (h : Rt0 L n) : ∀ {f g : Nat}, g < L.sl.length → ∀ x, x ∈ emptyF L f g c → 0 < x ∧ x < L.sl.length
  | 0, _, _, x, hx => by simp [emptyF] at hx
  | f + 1, g, hg, x, hx => by
    rw [emptyF] at hx
    split at hx
    · simp at hx
    split at hx
    · simp at hx
    rcases List.mem_cons.1 hx with rfl | hx
    · exact ⟨by omega, hg⟩
    · have := h.par g (by omega) hg
      exact emptyF_mem h (by omega) x hx
theorem emptyF_len {L : LSt} {n c : Nat} (h : Rt0 L n) : ∀ {f g : Nat}, g < L.sl.length → (emptyF L f g c).length ≤ g
  | 0, _, _ => Nat.zero_le _
  | f + 1, g, hg => by
    rw [emptyF]
    split
    · exact Nat.zero_le _
    split
    · exact Nat.zero_le _
    have := h.par g (by omega) hg
    have := emptyF_len h (f := f) (g := (L.par g).toNat) (c := c) (by omega)
    simp only [List.length_cons]
    omega
theorem gR_app {l : List Nat} {g : Nat} : gR (l ++ [g]) = gR l ++ [[.lit (.int .i64 (g : Int))]] := by simp [gR]
set_option maxHeartbeats 8000000 in
theorem empty (L : LSt) (n c g0 : Nat) (hS : Rt0 L n) (hc : c < n) (hg0 : g0 < L.sl.length) (E : List Nat) (hE : E = emptyF L L.sl.length g0 c) (m tk k : Nat) (hm : m + 6 + L.sl.length ≤ tk) (hk : tk < k) :
    Tr Tryz.prog Γ 69 k [.ptr m 0 0, .lit (.int .i64 (g0 : Int)), .lit (.int .i64 (c : Int))] (MH m tk L) (fun k1 r1 H1 => k1 = k + 1 ∧ r1 = accV k (gR E) ∧ H1 = accH k 1 (gR E) (MH m tk L)) := by
  obtain ⟨RH, eRH⟩ : ∃ x : Heap, x = accH k 1 (gR E) (MH m tk L) := ⟨_, rfl⟩
  obtain ⟨RV, eRV⟩ : ∃ x : AVal, x = accV k (gR E) := ⟨_, rfl⟩
  refine Tr.mono (Tr_in (kk := k + 1) (V := RV) (RH := RH) (by omega) (by rw [eRV]; exact bd_acc (by simp only [ltB, decide_eq_true_eq]; omega)) (by rw [eRH, bdH_acc (by simp only [ltB, decide_eq_true_eq]; omega)]; exact MH_lt (by omega) (by omega)) ?_) (fun _ _ _ h => ⟨h.1, h.2.1.trans eRV, h.2.2.trans eRH⟩)
  obtain ⟨F, hF⟩ : ∃ F : List Nat → Heap, ∀ l, F l = accH k 1 (gR l) (MH m tk L) := ⟨_, fun _ => rfl⟩
  have hS2 := hS.shp
  have hns := hS.ns
  refine Tr_at Tryz.func69 rfl 35 rfl (Nat.le_of_ble_eq_true rfl) ?_
  have kp : Kp [0,1,2,6,7,9,11,29] (fun i => i - k) := kpI
  refine wlD ?_; refine zq1 ⟨⟨⟨?_⟩⟩⟩
  refine M_forO (X := Nat × Nat × List Nat) rfl [0,1,2,6,7,9,11,29] (k + 1) (fun x => [(1, .lit (.int .i64 (x.1 : Int))), (7, accV k (gR x.2.2))]) (fun x => F x.2.2) (fun x => x.1 < L.sl.length ∧ x.1 < x.2.1 ∧ E = x.2.2 ++ emptyF L x.2.1 x.1 c ∧ x.2.2.length + x.1 ≤ 256) (fun x => x.2.1) (g0, L.sl.length, []) ?_ ⟨hg0, hg0, hE, by show 0 + g0 ≤ 256; omega⟩ ?_
  · rw [hF, show gR [] = [] from rfl]
    simp only [MH, LH]
    refine rRD ?_; apply zN
    exact wkD
  rintro ⟨g, f, l⟩ ⟨h1, h2, h3, h4⟩
  simp only [] at h1 h2 h3 h4
  obtain ⟨f, rfl⟩ : ∃ f', f = f' + 1 := ⟨f - 1, by omega⟩
  rw [emptyF] at h3
  rw [hF]
  have hap : apartH (accH k 1 (gR l) []) (MH m tk L) (MH m tk L) := MH_apart (fun i hi => by rw [look_acc (by omega)]; rfl) rfl
  simp only [MH, LH]
  refine rRD ?_; apply zN
  refine wlD ?_; refine zq2 ⟨fun ht => ⟨⟨?_⟩⟩⟩ ⟨fun ht => ⟨⟨?_⟩⟩⟩
  · have hg0 : g ≠ 0 := by omega
    rw [if_neg hg0] at h3
    have hng := hS.ng
    obtain ⟨hp0, hp1⟩ := hS.par g (by omega) h1
    obtain ⟨p, hp⟩ : ∃ p : Nat, L.par g = (p : Int) := ⟨(L.par g).toNat, by omega⟩
    cases hl : lst L g c with
    | some x =>
      rw [hl, if_pos (show (some x).isSome = true from rfl), List.append_nil] at h3
      have uU := @accH_app
      refine clD [.far (.tup [.agg [.lit (.int .u64 x.v), .lit (.int .u64 x.b), .lit (.int .u64 x.x)], .lit (.bool true)]) (k + 1) (accH k 1 (gR l) []) (MH m tk L) (MH m tk L)] ?_; refine zq3 ⟨⟨⟨?_⟩⟩⟩ ⟨⟨⟨?_⟩⟩⟩ ⟨⟨⟨?_⟩⟩⟩
      · exact fun _ => rfl
      · have := lst_is L n c hS2 hc m tk hm g h1 (k + 1) (by omega) (Γ := Γ)
        rw [hl] at this
        exact this
      simp only [MH, LH]
      refine rRD ?_; apply zN
      refine wlD ?_; refine zq1 ⟨fun ht => ⟨⟨?_⟩⟩⟩
      have uU := @accH_app; refine cRD ?_; apply zN
      refine ⟨?_, ?_⟩
      · rw [eRV, h3]
      · rw [eRH, h3]
        simp only [MH, LH]
        exact rRD hdT
    | none =>
      rw [hl, if_neg (by simp), hp, Int.toNat_natCast] at h3
      have uU := zA @accH_app @hp
      refine clD [.far (.tup [.agg [.lit (.int .u64 18446744073709551615), .lit (.int .u64 18446744073709551615), .lit (.int .u64 18446744073709551615)], .lit (.bool false)]) (k + 1) (accH k 1 (gR l) []) (MH m tk L) (MH m tk L)] ?_; refine zq3 ⟨⟨⟨?_⟩⟩⟩ ⟨⟨⟨?_⟩⟩⟩ ⟨⟨⟨?_⟩⟩⟩
      · exact fun _ => rfl
      · have := lst_is L n c hS2 hc m tk hm g h1 (k + 1) (by omega) (Γ := Γ)
        rw [hl] at this
        exact this
      simp only [MH, LH]
      refine rRD ?_; apply zN
      refine wlD ?_; refine zq1 ⟨fun ht => ⟨⟨?_⟩⟩⟩
      refine ⟨(p, f, l ++ [g]), ⟨by show p < L.sl.length; omega, by show p < f; omega, by rw [h3, List.append_assoc]; rfl, by simp only [List.length_append, List.length_cons, List.length_nil]; omega⟩, by show f < f + 1; omega, ?_⟩
      rw [hF, gR_app]
      simp only [MH, LH]
      refine rRD ?_; apply zN
      exact Mv.app (k + 3) k ⟨by omega, by omega⟩ ⟨by omega, by omega⟩ wgD
  · have hg0 : g = 0 := by omega
    rw [if_pos hg0, List.append_nil] at h3
    have uU := Go.AM.uU; refine cRD ?_; apply zN
    refine ⟨?_, ?_⟩
    · rw [eRV, h3]
    · rw [eRH, h3]
      simp only [MH, LH]
      exact rRD hdT
end Go.Proofs.T
end
section
namespace Go.Proofs.T
open Go Go.AM Go.Proofs
set_option maxRecDepth 20000
variable {Γ : List (Nat × List AVal)}
theorem memberV (a b c : Int) : Pure Tryz.prog Γ 55 [.agg [.lit (.int .u64 a), .lit (.int .u64 b), .lit (.int .u64 c)]] (.lit (.int .u64 a)) := by
  refine Pure_at Tryz.func55 rfl 5 rfl (Nat.le_of_ble_eq_true rfl) rfl fun k => ?_
  have kp : Kp [0,1,2] (fun i => i - k) := kpI
  refine wlD ?_; refine zq1 ⟨⟨⟨?_⟩⟩⟩
  refine C_ret rfl ⟨_, rfl, VLe.of_eq ?_⟩
  rfl
def maxZ (a b : Int) : Int := if b > a then b else a
def rise1 (L : LSt) (g c : Nat) : LSt := match lst L g c with
  | none => L
  | some x => L.setS g c { L.sp g c with floor := maxZ (L.sp g c).floor x.v }
theorem rise1_len {L : LSt} {g c : Nat} : (rise1 L g c).sl.length = L.sl.length := by
  unfold rise1
  split
  · rfl
  · exact setS_len
theorem lst_v {L : LSt} {n g c : Nat} {x : Mb} (h : Rt0 L n) (hg : g < L.sl.length) (hc : c < n) (hl : lst L g c = some x) : 0 ≤ x.v ∧ x.v ≤ 18446744073709551615 := by
  rcases lst_mem hg hl with ⟨j, h1, h2, rfl⟩ | ⟨j, h1, h2, h3, h4, rfl⟩
  · have := h.tk j h1; exact ⟨this.v0, this.v1⟩
  · have := h.sp j c h2 hc; exact ⟨this.2.1, this.2.2.1⟩
theorem Rt0.rise1 {L : LSt} {n g c : Nat} (h : Rt0 L n) (hg : g < L.sl.length) (hc : c < n) : Rt0 (rise1 L g c) n := by
  unfold T.rise1
  split
  · exact h
  · rename_i x hl
    have hv := lst_v h hg hc hl
    obtain ⟨a1, a2, a3, a4, a5, a6⟩ := h.sp g c hg hc
    refine h.setS hg hc ⟨a1, a2, a3, a4, ?_, ?_⟩ (fun e => by subst e; exact h.root c hc)
    · show 0 ≤ maxZ _ _; unfold maxZ; split <;> omega
    · show maxZ _ _ ≤ _; unfold maxZ; split <;> omega
def rcN (L : LSt) (g : Nat) : Nat → LSt
  | 0 => L
  | j + 1 => rise1 (rcN L g j) g j
def rgN (L : LSt) (n : Nat) : Nat → LSt
  | 0 => L
  | i + 1 => rcN (rgN L n i) i n
def riseL (L : LSt) (n : Nat) : LSt := rgN L n L.sl.length
theorem rcN_ok {L : LSt} {n g : Nat} (h : Rt0 L n) (hg : g < L.sl.length) : ∀ {j : Nat}, j ≤ n → Rt0 (rcN L g j) n ∧ (rcN L g j).sl.length = L.sl.length
  | 0, _ => ⟨h, rfl⟩
  | j + 1, hj => by
    obtain ⟨h1, h2⟩ := rcN_ok h hg (j := j) (by omega)
    exact ⟨h1.rise1 (by omega) (by omega), by rw [rcN, rise1_len, h2]⟩
theorem rgN_ok {L : LSt} {n : Nat} (h : Rt0 L n) : ∀ {i : Nat}, i ≤ L.sl.length → Rt0 (rgN L n i) n ∧ (rgN L n i).sl.length = L.sl.length
  | 0, _ => ⟨h, rfl⟩
  | i + 1, hi => by
    obtain ⟨h1, h2⟩ := rgN_ok h (i := i) (by omega)
    obtain ⟨h3, h4⟩ := rcN_ok h1 (g := i) (by omega) (Nat.le_refl n)
    exact ⟨h3, by rw [rgN, h4, h2]⟩
set_option maxHeartbeats 8000000 in
theorem rise (L : LSt) (n : Nat) (hS : Rt0 L n) (m tk k : Nat) (hm : m + 6 + L.sl.length ≤ tk) (hk : tk < k) :
    Tr Tryz.prog Γ 40 k [.ptr m 0 0] (MH m tk L) (fun k1 r1 H1 => k1 = k ∧ r1 = .tup [] ∧ H1 = MH m tk (riseL L n)) := by
  have hR : Rt0 (riseL L n) n ∧ (riseL L n).sl.length = L.sl.length := rgN_ok hS (Nat.le_refl _)
  have hR2 := hR.2
  obtain ⟨RH, eRH⟩ : ∃ x : Heap, x = MH m tk (riseL L n) := ⟨_, rfl⟩
  refine Tr.mono (Tr_in (kk := k) (V := .tup []) (RH := RH) (by omega) rfl (by rw [eRH]; exact MH_lt (by omega) (by omega)) ?_) (fun _ _ _ h => ⟨h.1, h.2.1, h.2.2.trans eRH⟩)
  obtain ⟨F, hF⟩ : ∃ F : Nat → Heap, ∀ i, F i = MH m tk (rgN L n i) := ⟨_, fun _ => rfl⟩
  refine Tr_at Tryz.func40 rfl 45 rfl (Nat.le_of_ble_eq_true rfl) ?_
  simp only [MH, LH]
  have kp : Kp [0,2,3,4,5,6,11,12,13,14,19,20,21,30] (fun i => i - k) := kpI
  refine wlD ?_; refine zq1 ⟨⟨⟨?_⟩⟩⟩
  refine M_forO (X := Nat) rfl [0,2,3,4,5,6,11,12,13,14,19,20,21,30] k (fun i => [(13, .lit (.int .i64 (i : Int)))]) (fun i => F i) (fun i => i ≤ L.sl.length) (fun i => L.sl.length - i) 0 ?_ (Nat.zero_le _) ?_
  · rw [hF, rgN]
    simp only [MH, LH]
    refine rRD ?_; apply zN
    exact wkD
  intro i hi
  obtain ⟨hM, hMl⟩ := rgN_ok hS hi
  have hsucc : rgN L n (i + 1) = rcN (rgN L n i) i n := rfl
  have hlast : i = L.sl.length → riseL L n = rgN L n i := fun e => by rw [e]; rfl
  rw [hF i]
  obtain ⟨M, eM⟩ : ∃ M, M = rgN L n i := ⟨_, rfl⟩
  rw [← eM] at hM hMl hsucc hlast ⊢
  have hns := hS.ns
  have hn64 := hS.n64
  obtain ⟨nl, enl⟩ : ∃ x, x = L.sl.length := ⟨_, rfl⟩
  rw [← enl] at hi hlast hMl hm hns ⊢
  simp only [MH, LH]
  have uU := @hMl
  refine rRD ?_; apply zN
  by_cases hi2 : i < nl
  · have hrow := hM.rows i (by omega)
    have uU := zA @hMl @hrow
    refine wlD ?_; refine zq1 ⟨fun ht => ⟨⟨?_⟩⟩⟩
    obtain ⟨F2, hF2⟩ : ∃ F2 : Nat → Heap, ∀ j, F2 j = MH m tk (rcN M i j) := ⟨_, fun _ => rfl⟩
    refine M_forO (X := Nat) rfl [0,2,3,4,5,6,11,12,13,14,19,20,21,30] k (fun j => [(20, .lit (.int .i64 (j : Int)))]) (fun j => F2 j) (fun j => j ≤ n) (fun j => n - j) 0 ?_ (Nat.zero_le _) ?_
    · rw [hF2, rcN]
      simp only [MH, LH]
      refine rRD ?_; apply zN
      exact wkD
    intro j hj
    obtain ⟨hN, hNl⟩ := rcN_ok hM (g := i) (by omega) hj
    rw [hMl] at hNl
    have hsucc2 : rcN M i (j + 1) = rise1 (rcN M i j) i j := rfl
    have hlast2 : j = n → rcN M i n = rcN M i j := fun e => by rw [e]
    rw [hF2 j]
    obtain ⟨N, eN⟩ : ∃ N, N = rcN M i j := ⟨_, rfl⟩
    rw [← eN] at hN hNl hsucc2 hlast2 ⊢
    have hrow2 := hN.rows i (by omega)
    simp only [MH, LH]
    have uU := zA @hNl @hrow2
    refine rRD ?_; apply zN
    by_cases hj2 : j < n
    · have hlst := lst_is N n j hN.shp hj2 m tk (by omega) i (by omega) k hk (Γ := Γ)
      cases hl : lst N i j with
      | none =>
        rw [hl] at hlst
        rw [show rise1 N i j = N by rw [rise1, hl]] at hsucc2
        refine wlD ?_; refine zq1 ⟨fun ht => ⟨⟨?_⟩⟩⟩
        refine clD [.far (.tup [.agg [.lit (.int .u64 18446744073709551615), .lit (.int .u64 18446744073709551615), .lit (.int .u64 18446744073709551615)], .lit (.bool false)]) k [] (MH m tk N) (MH m tk N)] ?_; refine zq4 ⟨⟨⟨?_⟩⟩⟩ ⟨⟨⟨?_⟩⟩⟩ ⟨⟨⟨?_⟩⟩⟩ ⟨⟨⟨?_⟩⟩⟩
        · intro q
          simp only [MH, LH, mrow, hNl]
        · exact MH_apart (fun i hi => by simp only [AM.look]; repeat (rw [if_neg (by omega)])) rfl
        · exact hlst
        simp only [MH, LH]
        refine rRD ?_; apply zN
        refine wlD ?_; refine zq1 ⟨fun ht => ⟨⟨?_⟩⟩⟩
        refine ⟨j + 1, by omega, by omega, ?_⟩
        rw [hF2, hsucc2]
        simp only [MH, LH]
        refine rRD ?_; apply zN
        exact wkD
      | some x =>
        rw [hl] at hlst
        rw [show rise1 N i j = N.setS i j { N.sp i j with floor := maxZ (N.sp i j).floor x.v } by rw [rise1, hl]] at hsucc2
        refine wlD ?_; refine zq1 ⟨fun ht => ⟨⟨?_⟩⟩⟩
        refine clD [.far (.tup [.agg [.lit (.int .u64 x.v), .lit (.int .u64 x.b), .lit (.int .u64 x.x)], .lit (.bool true)]) k [] (MH m tk N) (MH m tk N)] ?_; refine zq4 ⟨⟨⟨?_⟩⟩⟩ ⟨⟨⟨?_⟩⟩⟩ ⟨⟨⟨?_⟩⟩⟩ ⟨⟨⟨?_⟩⟩⟩
        · intro q
          simp only [MH, LH, mrow, hNl]
        · exact MH_apart (fun i hi => by simp only [AM.look]; repeat (rw [if_neg (by omega)])) rfl
        · exact hlst
        simp only [MH, LH]
        refine rRD ?_; apply zN
        have kp : Kp [0,2,3,4,5,6,11,12,13,14,19,20,21,30] (fun i => if k ≤ i then i - k + 1 else 0) := kpI
        refine wlD ?_; refine zq1 ⟨fun ht => ⟨⟨?_⟩⟩⟩
        refine dlD [.ret (.lit (.int .u64 x.v))] ?_; refine zq2 ⟨⟨⟨?_⟩⟩⟩ ⟨⟨⟨?_⟩⟩⟩
        · exact memberV _ _ _
        refine wlD ?_; refine zq1 ⟨⟨⟨?_⟩⟩⟩
        refine ⟨j + 1, by omega, by omega, ?_⟩
        rw [hF2, hsucc2, MH_setS (by omega)]
        simp only [mrow, spc, maxZ, hNl]
        refine rRD ?_; apply zN
        exact wkD
    · have hj3 : j = n := by omega
      have kp : Kp [0,2,3,4,5,6,11,12,13,14,19,20,21,30] (fun i => if k ≤ i then i - k + 1 else 0) := kpI
      refine wlD ?_; refine zq1 ⟨fun ht => ⟨⟨?_⟩⟩⟩
      refine ⟨i + 1, by omega, by omega, ?_⟩
      rw [hF, hsucc, hlast2 hj3]
      simp only [MH, LH]
      refine rRD ?_; apply zN
      exact wkD
  · have hi3 : i = nl := by omega
    rw [hlast hi3] at eRH
    have kp : Kp [0,2,3,4,5,6,11,12,13,14,19,20,21,30] (fun i => if k ≤ i then i - k + 1 else 0) := kpI
    refine wlD ?_; refine zq1 ⟨fun ht => ⟨⟨?_⟩⟩⟩
    refine ⟨_, rfl, rfl, ?_⟩
    rw [eRH]
    simp only [MH, LH]
    exact rRD hdT
end Go.Proofs.T
end
section
namespace Go.Proofs.T
open Go Go.AM Go.Proofs
set_option maxRecDepth 20000
variable {Γ : List (Nat × List AVal)}
def mce (s : St) : List AVal := [.lit (.int .i64 s.cpus), .lit (.int .u64 s.credit), .rd 2 s.ng (gf s), .rd 1 s.nk (kf s), .rd 1 s.nu (uf s), .rd 8 s.nt (tf s), .rd 1 s.ns (ssf s), .lit (.bool true)]
attribute [go_sem] mce
theorem Bor.lit {Hc : Heap} {u : Value} : Bor Γ Hc (.lit u) (.lit u) := fun w G ρ H A cv _ _ hv => by have e := V_bool hv; rw [e]; exact .lit
theorem bor_sl {Hc : Heap} {id n : Nat} {B : Blk} {F : Nat → List AVal} (hB : AM.look Hc id = some B) (hn : n ≤ B.rows.length) (hF : ∀ i, i < n → (F i).length = B.sz)
    (h : ∀ i, i < n → ∃ row, B.rows[i]? = some row ∧ ∀ (j : Nat) v v', row[j]? = some v → (F i)[j]? = some v' → Bor Γ Hc v v') : Bor Γ Hc (.sl id 0 n) (.rd B.sz n F) :=
  Bor.sl hB (by omega) hF fun i row j v v' hi hr hv hv' => by
    obtain ⟨row', h1, h2⟩ := h i hi
    rw [Nat.zero_add] at hr
    rw [h1] at hr; cases hr
    exact h2 j v v' hv hv'
theorem bor_lits {Hc : Heap} {row : List AVal} (h : row.all (fun v => match v with | .lit _ => true | _ => false) = true) : ∀ (j : Nat) v v', row[j]? = some v → row[j]? = some v' → Bor Γ Hc v v' := fun j v v' h1 h2 => by
  rw [h1] at h2; cases h2
  have := all_get h h1
  cases v with
  | lit u => exact Bor.lit
  | _ => cases this
theorem MH_bor {m tk : Nat} {L : LSt} (hm : m + 6 + L.sl.length ≤ tk) : Bor Γ (MH m tk L) (.ptr m 0 0) (.rp (mce L.st)) := by
  have l0 : AM.look (MH m tk L) m = some ⟨8, false, [mrow m tk L]⟩ := look_MH
  have l1 : AM.look (MH m tk L) (m + 1) = some ⟨2, true, glR L⟩ := by simp only [MH, LH, AM.look]; repeat (first | rw [if_neg (by omega)] | rw [if_pos trivial])
  have l2 : AM.look (MH m tk L) (m + 2) = some ⟨1, true, klR L⟩ := by simp only [MH, LH, AM.look]; repeat (first | rw [if_neg (by omega)] | rw [if_pos trivial])
  have l3 : AM.look (MH m tk L) (m + 3) = some ⟨1, true, ulR L⟩ := by simp only [MH, LH, AM.look]; repeat (first | rw [if_neg (by omega)] | rw [if_pos trivial])
  have l5 : AM.look (MH m tk L) (m + 5) = some ⟨1, false, ouR m L⟩ := by simp only [MH, LH, AM.look]; repeat (first | rw [if_neg (by omega)] | rw [if_pos trivial])
  have l4 : AM.look (MH m tk L) tk = some ⟨8, true, tlR L⟩ := by simp only [MH, LH, AM.look]; repeat (first | rw [if_neg (by omega)] | rw [if_pos trivial])
  have l6 : ∀ g, g < L.sl.length → AM.look (MH m tk L) (m + 6 + g) = some ⟨3, true, slR L g⟩ := fun g hg => by
    simp only [MH, LH, AM.look]
    repeat rw [if_neg (by omega)]
    exact look_fam hg
  refine Bor.ptr l0 rfl rfl fun j v v' h1 h2 => ?_
  have b2 : Bor Γ (MH m tk L) (.sl (m + 1) 0 L.gl.length) (.rd 2 L.gl.length (gf L.st)) := bor_sl l1 (by rw [glR_len]; omega) (fun i _ => rfl) fun i hi => ⟨_, glR_get hi, bor_lits rfl⟩
  have b3 : Bor Γ (MH m tk L) (.sl (m + 2) 0 L.kl.length) (.rd 1 L.kl.length (kf L.st)) := bor_sl l2 (by rw [klR_len]; omega) (fun i _ => rfl) fun i hi => ⟨_, klR_get hi, bor_lits rfl⟩
  have b4 : Bor Γ (MH m tk L) (.sl (m + 3) 0 L.ul.length) (.rd 1 L.ul.length (uf L.st)) := bor_sl l3 (by rw [ulR_len]; omega) (fun i _ => rfl) fun i hi => ⟨_, ulR_get hi, bor_lits rfl⟩
  have b5 : Bor Γ (MH m tk L) (.sl tk 0 L.tl.length) (.rd 8 L.tl.length (tf L.st)) := bor_sl l4 (by rw [tlR_len]; omega) (fun i _ => rfl) fun i hi => ⟨_, tlR_get hi, bor_lits rfl⟩
  have b6 : Bor Γ (MH m tk L) (.sl (m + 5) 0 L.sl.length) (.rd 1 L.sl.length (ssf L.st)) := bor_sl l5 (by rw [ouR_len]; omega) (fun i _ => rfl) fun i hi => ⟨_, ouR_get hi, fun j v v' h1 h2 => by
    match j with
    | 0 =>
      simp only [List.getElem?_cons_zero, Option.some.injEq, ssf] at h1 h2
      subst h1; subst h2
      exact bor_sl (l6 i hi) (by rw [slR_len]; exact Nat.le_refl _) (fun c _ => rfl) fun c hc => ⟨_, slR_get hc, bor_lits rfl⟩
    | j + 1 => simp [ssf] at h1⟩
  match j with
  | 0 => cases h1; cases h2; exact Bor.lit
  | 1 => cases h1; cases h2; exact Bor.lit
  | 2 => cases h1; cases h2; exact b2
  | 3 => cases h1; cases h2; exact b3
  | 4 => cases h1; cases h2; exact b4
  | 5 => cases h1; cases h2; exact b5
  | 6 => cases h1; cases h2; exact b6
  | 7 => cases h1; cases h2; exact Bor.lit
  | j + 8 => simp [mrow] at h1
end Go.Proofs.T
end
section
namespace Go.Proofs.T
open Go Go.AM Go.Proofs
set_option maxRecDepth 20000
variable {Γ : List (Nat × List AVal)}
def tfL (L : LSt) (i : Nat) : List AVal := tkc (L.tsk i)
def gfL (L : LSt) (i : Nat) : List AVal := [.lit (.int .i64 (L.par i)), .lit (.int .i64 (L.wt i))]
def kfL (L : LSt) (i : Nat) : List AVal := [.lit (.int .i64 (L.clk i))]
def ufL (L : LSt) (i : Nat) : List AVal := [.lit (.int .i64 (L.cur i))]
def ssL (L : LSt) (g : Nat) : List AVal := [.rd 3 (L.sl.getD g []).length (fun c => spc (L.sp g c))]
def mcL (L : LSt) : List AVal := [.lit (.int .i64 L.cpus), .lit (.int .u64 L.credit), .rd 2 L.gl.length (gfL L), .rd 1 L.kl.length (kfL L), .rd 1 L.ul.length (ufL L), .rd 8 L.tl.length (tfL L), .rd 1 L.sl.length (ssL L), .lit (.bool true)]
attribute [go_sem] tfL gfL kfL ufL ssL mcL
theorem bsearchP (L : LSt) (id : Int) (p : Nat) (hp : PosIs L id p) (hso : Sorted L) (hnt : L.tl.length ≤ 100000) :
    Pure Tryz.prog Γ 95 [.rd 8 L.tl.length (tfL L), .lit (.int .i64 id), .fn 96 []] (.tup [.lit (.int .i64 (p : Int)), .lit (.bool (decide (p < L.tl.length ∧ (L.tsk p).id = id)))]) := by
  refine Pure_at Tryz.func95 rfl 49 rfl (Nat.le_of_ble_eq_true rfl) rfl fun k => ?_
  have kp : Kp [0,1,2,6,7,8,9,10,11,17,31] (fun i => i - k) := kpI
  refine wlD ?_; refine zq1 ⟨⟨⟨?_⟩⟩⟩
  refine M_forO (X := Nat × Nat) rfl [0,1,2,6,7,8,9,10,11,17,31] k (fun x => [(9, .lit (.int .i64 (x.1 : Int))), (10, .lit (.int .i64 (x.2 : Int)))]) (fun x => []) (fun x => x.1 ≤ x.2 ∧ x.2 ≤ L.tl.length ∧ x.1 ≤ p ∧ p ≤ x.2) (fun x => x.2 - x.1) (0, L.tl.length) ?_ ⟨Nat.zero_le _, Nat.le_refl _, Nat.zero_le _, hp.1⟩ ?_
  · refine rRD ?_; apply zN
    exact wkD
  rintro ⟨i, j⟩ ⟨h1, h2, h3, h4⟩
  simp only [] at h1 h2 h3 h4
  have e1 : IntKind.u64.wrap ((i : Int) + (j : Int)) = (i : Int) + (j : Int) := wrap_u64 (by omega) (by omega)
  have e2 : ((i : Int) + (j : Int)).fdiv (2 ^ min 1 64) = (((i + j) / 2 : Nat) : Int) := by rw [show (2 : Int) ^ min 1 64 = 2 from rfl, Int.fdiv_eq_ediv_of_nonneg _ (by omega)]; omega
  obtain ⟨h, eh⟩ : ∃ h, h = (i + j) / 2 := ⟨_, rfl⟩
  rw [← eh] at e2
  have e3 : IntKind.i64.wrap (h : Int) = (h : Int) := wrap_i64 (by omega) (by omega)
  refine rRD ?_; apply zN
  have uU := zA @e1 (zA @e2 @e3)
  refine wlD ?_; refine zq2 ⟨fun ht => ⟨⟨?_⟩⟩⟩ ⟨fun ht => ⟨⟨?_⟩⟩⟩
  · refine clD [.ret (.lit (.int .i64 (cmpZ (L.tsk h).id id)))] ?_; refine zq2 ⟨⟨⟨?_⟩⟩⟩ ⟨⟨⟨?_⟩⟩⟩
    · exact find1 (L.tsk h) id
    refine wlD ?_; refine zq2 ⟨fun ht => ⟨⟨?_⟩⟩⟩ ⟨fun ht => ⟨⟨?_⟩⟩⟩
    · have hc := cmpZ_neg.1 ht
      have : h < p := Nat.lt_of_not_le fun e => by have := hp.2.2 h e (by omega); omega
      refine ⟨(h + 1, j), ⟨by show h + 1 ≤ j; omega, h2, by show h + 1 ≤ p; omega, h4⟩, by show j - (h + 1) < j - i; omega, ?_⟩
      refine rRD ?_; apply zN
      exact wkD
    · have hc : ¬ (L.tsk h).id < id := fun e => by have := cmpZ_neg.2 e; omega
      have : p ≤ h := Nat.le_of_not_lt fun e => hc (hp.2.1 h e)
      refine ⟨(i, h), ⟨by show i ≤ h; omega, by show h ≤ L.tl.length; omega, h3, this⟩, by show h - i < j - i; omega, ?_⟩
      refine rRD ?_; apply zN
      exact wkD
  · have hi : i = p := by omega
    subst hi
    refine clD [.ret (.lit (.int .i64 (cmpZ (L.tsk i).id id)))] ?_; refine zq3 ⟨⟨fun hg => ⟨?_⟩⟩⟩ ⟨⟨fun hg => ⟨?_⟩⟩⟩ ⟨⟨fun hg => ⟨?_⟩⟩⟩
    · exact find1 (L.tsk i) id
    · refine C_ret rfl ⟨_, rfl, VLe.of_eq ?_⟩
      rw [show (cmpZ (L.tsk i).id id == 0) = decide (i < L.tl.length ∧ (L.tsk i).id = id) by
        rw [Bool.eq_iff_iff, beq_iff_eq, decide_eq_true_eq, cmpZ_zero]; constructor
        · intro h; exact ⟨by omega, h⟩
        · exact fun h => h.2]
    · refine C_ret rfl ⟨_, rfl, VLe.of_eq ?_⟩
      rw [decide_eq_false (by rintro ⟨h, _⟩; omega)]
theorem findP (L : LSt) (id r : Int) (hr : FindIs L id r) (hso : Sorted L) (hnt : L.tl.length ≤ 100000) :
    Pure Tryz.prog Γ 53 [.rp (mcL L), .lit (.int .i64 id)] (.lit (.int .i64 r)) := by
  obtain ⟨p, hp⟩ := pos_ex L hso id
  have hrp : r = if p < L.tl.length ∧ (L.tsk p).id = id then (p : Int) else -1 := by
    rcases hr with ⟨rfl, h⟩ | ⟨i, h1, rfl, h2⟩
    · rw [if_neg (fun e => h p e.1 e.2)]
    · have : p = i := by
        rcases Nat.lt_trichotomy p i with hc | hc | hc
        · have := hp.2.2 p (Nat.le_refl _) (by omega); have := hso p i hc h1; omega
        · exact hc
        · have := hp.2.1 i hc; omega
      subst this
      rw [if_pos ⟨h1, h2⟩]
  refine Pure_at Tryz.func53 rfl 20 rfl (Nat.le_of_ble_eq_true rfl) rfl fun k => ?_
  have kp : Kp [0,1,4,5,6,18] (fun i => i - k) := kpI
  refine wlD ?_; refine zq1 ⟨⟨⟨?_⟩⟩⟩
  refine clD [.ret (.tup [.lit (.int .i64 (p : Int)), .lit (.bool (decide (p < L.tl.length ∧ (L.tsk p).id = id)))])] ?_; refine zq2 ⟨⟨⟨?_⟩⟩⟩ ⟨⟨⟨?_⟩⟩⟩
  · exact bsearchP L id p hp hso hnt
  refine wlD ?_; refine zq2 ⟨fun ht => ⟨⟨?_⟩⟩⟩ ⟨fun ht => ⟨⟨?_⟩⟩⟩
  · refine C_ret rfl ⟨_, rfl, VLe.of_eq ?_⟩
    rw [hrp, if_neg (by omega)]
  · refine C_ret rfl ⟨_, rfl, VLe.of_eq ?_⟩
    rw [hrp, if_pos (by omega)]
set_option maxHeartbeats 8000000 in
theorem leastP (L : LSt) (n c : Nat) (hS : Shp L n) (hc : c < n) : ∀ (f g : Nat), g < L.sl.length → L.sl.length - g ≤ f →
    Pure Tryz.prog Γ 54 [.rp (mcL L), .lit (.int .i64 (g : Int)), .lit (.int .i64 (c : Int))] (resL (leastF L f g c)) := by
  obtain ⟨hng, hrw, hnt, hns, htid, hspv⟩ := id hS
  intro f
  induction f with
  | zero => intro g hgS hf; omega
  | succ f ih =>
  intro g hgS hf
  obtain ⟨RV, eRV⟩ : ∃ x, x = resL (leastF L (f + 1) g c) := ⟨_, rfl⟩
  rw [← eRV]
  refine Pure_at Tryz.func54 rfl 102 rfl (Nat.le_of_ble_eq_true rfl) (by rw [eRV]; exact resL_bd _) fun k => ?_
  have kp : Kp [0,1,2,6,7,8,9,10,12,13,15,22,23,24,25,41,60,74,82] (fun i => i - k) := kpI
  refine wlD ?_; refine zq1 ⟨⟨⟨?_⟩⟩⟩
  refine M_forO (X := Nat) rfl [0,1,2,6,7,8,9,10,12,13,15,22,23,24,25,41,60,74,82] (k + 3) (fun i => [(24, .lit (.int .i64 (i : Int)))]) (fun i => [(k + 2, smb (lT L g c i)), (k + 1, bst (lT L g c i)), (k, mb3 0 0 0)]) (fun i => i ≤ L.tl.length) (fun i => L.tl.length - i) 0 ?_ (Nat.zero_le _) ?_
  · rw [show lT L g c 0 = none from rfl]
    have uU := zA @bst.eq_1 @smb.eq_1
    refine rRD ?_; apply zN
    exact wkD
  intro i hi
  refine rRD ?_; apply zN
  have e1 : i < L.tl.length → IntKind.u64.wrap (L.tsk i).id = (L.tsk i).id := fun h => by have := htid i h; exact wrap_u64 (by omega) (by omega)
  refine wlD ?_; refine zq5 ⟨fun ht ht => ⟨fun hg hg => ⟨?_⟩⟩⟩ ⟨fun ht ht => ⟨fun hg hg => ⟨?_⟩⟩⟩ ⟨fun ht ht => ⟨fun hg hg => ⟨?_⟩⟩⟩ ⟨fun ht ht => ⟨fun hg => ⟨?_⟩⟩⟩ ⟨fun ht => ⟨⟨?_⟩⟩⟩
  · have e1' := e1 (by omega)
    have hx := htid i (by omega)
    have uU := @e1'
    refine clD [.gen (.tup []) (k + 5) [(k + 1, bst (lT L g c i)), (k + 2, smb (lT L g c i))] [(k + 1, bst (ask (lT L g c i) (tmb (L.tsk i)))), (k + 2, smb (ask (lT L g c i) (tmb (L.tsk i))))]] ?_; refine zq2 ⟨⟨⟨?_⟩⟩⟩ ⟨⟨⟨?_⟩⟩⟩
    · exact least1 (k + 4) (k + 1) (k + 2) (lT L g c i) (tmb (L.tsk i)) (by omega) (by omega) (by omega) hx.2.2 (by show (0 : Int) ≤ 1; omega)
    have uU := Go.AM.uU
    refine wlD ?_; refine zq1 ⟨⟨⟨?_⟩⟩⟩
    refine ⟨i + 1, by omega, by omega, ?_⟩
    rw [lT_succ (takes_iff.2 ⟨by assumption, by assumption, by assumption⟩)]
    refine rRD ?_; apply zN
    exact wkD
  iterate 3
    · refine ⟨i + 1, by omega, by omega, ?_⟩
      rw [lT_skip (by rw [takes_iff]; rintro ⟨a1, a2, a3⟩; first | omega | (simp_all; done))]
      refine rRD ?_; apply zN
      exact wkD
  have hi' : i = L.tl.length := by omega
  subst hi'
  clear hi e1
  refine M_forO (X := Nat) rfl [0,1,2,6,7,8,9,10,12,13,15,22,23,24,25,41,60,74,82] (k + 3) (fun h => [(13, .lit (.int .i64 (h : Int)))]) (fun h => [(k + 2, smb (lS L (fun h => leastF L f h c) g c (h - (g + 1)))), (k + 1, bst (lS L (fun h => leastF L f h c) g c (h - (g + 1)))), (k, mb3 0 0 0)]) (fun h => g + 1 ≤ h ∧ h ≤ L.sl.length) (fun h => L.sl.length - h) (g + 1) ?_ ⟨Nat.le_refl _, hgS⟩ ?_
  · rw [Nat.sub_self, lS]
    refine rRD ?_; apply zN
    exact wkD
  rintro h ⟨h1, h2⟩
  obtain ⟨o, eo⟩ : ∃ o, o = lS L (fun h => leastF L f h c) g c (h - (g + 1)) := ⟨_, rfl⟩
  rw [← eo]
  refine rRD ?_; apply zN
  refine wlD ?_; refine zq3 ⟨fun ht ht => ⟨⟨?_⟩⟩⟩ ⟨fun ht ht => ⟨⟨?_⟩⟩⟩ ⟨fun ht => ⟨⟨?_⟩⟩⟩
  · refine ⟨h + 1, ⟨by omega, by omega⟩, by omega, ?_⟩
    rw [lS_skip h1 (by rintro ⟨a1, _⟩; omega), ← eo]
    refine rRD ?_; apply zN
    exact wkD
  · have hr := hrw h (by omega)
    have e2 : IntKind.u64.wrap (h : Int) = (h : Int) := wrap_u64 (by omega) (by omega)
    obtain ⟨q, eq⟩ : ∃ q, q = leastF L f h c := ⟨_, rfl⟩
    obtain ⟨q0, q1, q2, hq⟩ : ∃ q0 q1 q2, mbc q = [.lit (.int .u64 q0), .lit (.int .u64 q1), .lit (.int .u64 q2)] := ⟨_, _, _, mbc_get q⟩
    have uU := zA @resL.eq_1 @hq
    refine clD [.ret (resL q)] ?_; refine zq2 ⟨⟨⟨?_⟩⟩⟩ ⟨⟨⟨?_⟩⟩⟩
    · have := ih h (by omega) (by omega)
      rw [← eq] at this
      unfold resL at this
      rw [hq] at this
      exact this
    have uU := zA @e2 @hr
    refine wlD ?_; refine zq2 ⟨fun ht => ⟨⟨?_⟩⟩⟩ ⟨fun ht => ⟨⟨?_⟩⟩⟩
    · refine clD [.gen (.tup []) (k + 5) [(k + 1, bst o), (k + 2, smb o)] [(k + 1, bst (ask o ⟨(L.sp h c).v, 1, (h : Int)⟩)), (k + 2, smb (ask o ⟨(L.sp h c).v, 1, (h : Int)⟩))]] ?_; refine zq2 ⟨⟨⟨?_⟩⟩⟩ ⟨⟨⟨?_⟩⟩⟩
      · exact least1 (k + 4) (k + 1) (k + 2) o ⟨(L.sp h c).v, 1, (h : Int)⟩ (by omega) (by omega) (by omega) (hspv h c (by omega) hc) (Int.le_refl _)
      have uU := Go.AM.uU
      refine wlD ?_; refine zq1 ⟨⟨⟨?_⟩⟩⟩
      refine ⟨h + 1, ⟨by omega, by omega⟩, by omega, ?_⟩
      rw [lS_succ h1 (by omega) (by rw [← eq]; assumption), ← eo]
      refine rRD ?_; apply zN
      exact wkD
    · refine ⟨h + 1, ⟨by omega, by omega⟩, by omega, ?_⟩
      rw [lS_skip h1 (by rw [← eq]; rintro ⟨_, a1⟩; simp_all), ← eo]
      have uU := Go.AM.uU
      refine rRD ?_; apply zN
      exact wkD
  · have hh : h = L.sl.length := by omega
    have eo' : o = leastF L (f + 1) g c := by rw [eo, hh]; rfl
    rw [← eo'] at eRV
    clear eo eo'
    obtain ⟨q0, q1, q2, hq, hq'⟩ : ∃ q0 q1 q2, bst o = mb3 q0 q1 q2 ∧ mbc o = [.lit (.int .u64 q0), .lit (.int .u64 q1), .lit (.int .u64 q2)] := ⟨_, _, _, bst_get o, mbc_get o⟩
    rw [hq]
    have uU := @smb.eq_1
    refine dlD [] ?_; refine zq1 ⟨⟨⟨?_⟩⟩⟩
    have uU := @smb.eq_1; refine cRD ?_; apply zN
    exact VLe.of_eq (by rw [eRV, resL, hq'])
end Go.Proofs.T
end
section
namespace Go.Proofs.T
open Go Go.AM Go.Proofs
set_option maxRecDepth 20000
variable {Γ : List (Nat × List AVal)}
theorem lstP (L : LSt) (n c g : Nat) (hS : Shp L n) (hc : c < n) (hg : g < L.sl.length) :
    Pure Tryz.prog Γ 54 [.rp (mcL L), .lit (.int .i64 (g : Int)), .lit (.int .i64 (c : Int))] (resL (lst L g c)) :=
  leastP L n c hS hc L.sl.length g hg (by omega)
set_option maxHeartbeats 8000000 in
theorem firstP (L : LSt) (n c : Nat) (hS : Shp L n) (hc : c < n) (h0 : 0 < L.sl.length) :
    Pure Tryz.prog Γ 80 [.rp (mcL L), .lit (.int .i64 (c : Int))] (.lit (.int .i64 (firstF L L.sl.length 0 c))) := by
  obtain ⟨RV, eRV⟩ : ∃ x, x = AVal.lit (.int .i64 (firstF L L.sl.length 0 c)) := ⟨_, rfl⟩
  rw [← eRV]
  refine Pure_at Tryz.func80 rfl 28 rfl (Nat.le_of_ble_eq_true rfl) (by rw [eRV]; rfl) fun k => ?_
  have kp : Kp [0,1,4,5,6,7,15,18] (fun i => i - k) := kpI
  refine wlD ?_; refine zq1 ⟨⟨⟨?_⟩⟩⟩
  refine M_forO (X := Nat × Nat) rfl [0,1,4,5,6,7,15,18] k (fun x => [(5, .lit (.int .i64 (x.1 : Int)))]) (fun x => []) (fun x => x.1 < L.sl.length ∧ L.sl.length - x.1 ≤ x.2 ∧ firstF L x.2 x.1 c = firstF L L.sl.length 0 c) (fun x => x.2) (0, L.sl.length) ?_ ⟨h0, Nat.le_refl _, rfl⟩ ?_
  · refine rRD ?_; apply zN
    exact wkD
  rintro ⟨g, f⟩ ⟨h1, h2, h3⟩
  simp only [] at h1 h2 h3
  obtain ⟨f, rfl⟩ : ∃ f', f = f' + 1 := ⟨f - 1, by omega⟩
  rw [firstF] at h3
  rw [← h3] at eRV
  refine rRD ?_; apply zN
  cases hl : lst L g c with
  | none =>
    rw [hl] at eRV
    simp only [] at eRV
    refine wlD ?_; refine zq1 ⟨⟨⟨?_⟩⟩⟩
    · refine clD [.ret (.tup [.agg [.lit (.int .u64 18446744073709551615), .lit (.int .u64 18446744073709551615), .lit (.int .u64 18446744073709551615)], .lit (.bool false)])] ?_; refine zq2 ⟨⟨⟨?_⟩⟩⟩ ⟨⟨⟨?_⟩⟩⟩
      · have := lstP L n c g hS hc h1 (Γ := Γ)
        rw [hl] at this
        exact this
      refine wlD ?_; refine zq1 ⟨fun ht => ⟨⟨?_⟩⟩⟩
      have uU := Go.AM.uU; refine cRD ?_; apply zN
      exact VLe.of_eq (by rw [eRV])
  | some x =>
    rw [hl] at eRV
    simp only [] at eRV
    have hx := lst_mem h1 hl
    have hxx : 0 ≤ x.x ∧ x.x ≤ 65535 := by
      rcases hx with ⟨j, h4, h5, rfl⟩ | ⟨h, h4, h5, h6, h7, rfl⟩
      · have := hS.tid j h4; exact ⟨this.1, this.2.1⟩
      · have := hS.ns; exact ⟨by show (0 : Int) ≤ (h : Int); omega, by show (h : Int) ≤ 65535; omega⟩
    have e1 : IntKind.i64.wrap x.x = x.x := wrap_i64 (by omega) (by omega)
    have uU := @e1
    refine wlD ?_; refine zq1 ⟨⟨⟨?_⟩⟩⟩
    · refine clD [.ret (.tup [.agg [.lit (.int .u64 x.v), .lit (.int .u64 x.b), .lit (.int .u64 x.x)], .lit (.bool true)])] ?_; refine zq2 ⟨⟨⟨?_⟩⟩⟩ ⟨⟨⟨?_⟩⟩⟩
      · have := lstP L n c g hS hc h1 (Γ := Γ)
        rw [hl] at this
        exact this
      refine wlD ?_; refine zq2 ⟨fun ht ht => ⟨⟨?_⟩⟩⟩ ⟨fun ht ht => ⟨⟨?_⟩⟩⟩
      · have uU := @e1; refine cRD ?_; apply zN
        exact VLe.of_eq (by rw [eRV, if_pos (by omega)])
      · rcases hx with ⟨j, h4, h5, rfl⟩ | ⟨h, h4, h5, h6, h7, rfl⟩
        · exact absurd rfl (by assumption)
        · refine ⟨(h, f), ⟨h5, by omega, ?_⟩, by show f < f + 1; omega, ?_⟩
          · rw [← h3, hl]
            rfl
          · refine rRD ?_; apply zN
            exact wkD
set_option maxHeartbeats 8000000 in
theorem weightP (L : LSt) (c : Int) (hnt : L.tl.length ≤ 100000) : Pure Tryz.prog Γ 84 [.rp (mcL L), .lit (.int .i64 c)] (.lit (.int .i64 (wtL L c L.tl.length))) := by
  obtain ⟨RV, eRV⟩ : ∃ x, x = AVal.lit (.int .i64 (wtL L c L.tl.length)) := ⟨_, rfl⟩
  rw [← eRV]
  refine Pure_at Tryz.func84 rfl 32 rfl (Nat.le_of_ble_eq_true rfl) (by rw [eRV]; rfl) fun k => ?_
  have kp : Kp [0,1,4,5,7,12,13,14,15,25] (fun i => i - k) := kpI
  refine wlD ?_; refine zq1 ⟨⟨⟨?_⟩⟩⟩
  refine M_forO (X := Nat) rfl [0,1,4,5,7,12,13,14,15,25] k (fun i => [(14, .lit (.int .i64 (i : Int))), (5, .lit (.int .i64 (wtL L c i)))]) (fun i => []) (fun i => i ≤ L.tl.length) (fun i => L.tl.length - i) 0 ?_ (Nat.zero_le _) ?_
  · rw [wtL]
    refine rRD ?_; apply zN
    exact wkD
  intro i hi
  have hw1 : (L.tsk i).ready = true ∧ (L.tsk i).cpu = c → wtL L c (i + 1) = IntKind.i64.wrap (wtL L c i + (L.tsk i).weight) := fun h => by rw [wtL, if_pos h]
  have hw2 : ¬ ((L.tsk i).ready = true ∧ (L.tsk i).cpu = c) → wtL L c (i + 1) = wtL L c i := fun h => by rw [wtL, if_neg h]
  obtain ⟨w, ew⟩ : ∃ w, w = wtL L c i := ⟨_, rfl⟩
  rw [← ew] at hw1 hw2
  rw [← ew]
  refine rRD ?_; apply zN
  refine wlD ?_; refine zq4 ⟨fun ht ht => ⟨fun hg => ⟨?_⟩⟩⟩ ⟨fun ht ht => ⟨fun hg => ⟨?_⟩⟩⟩ ⟨fun ht ht => ⟨fun hg => ⟨?_⟩⟩⟩ ⟨fun ht => ⟨⟨?_⟩⟩⟩
  · refine ⟨i + 1, by omega, by omega, ?_⟩
    rw [hw1 ⟨by assumption, by assumption⟩]
    refine rRD ?_; apply zN
    exact wkD
  iterate 2
    · refine ⟨i + 1, by omega, by omega, ?_⟩
      rw [hw2 (by rintro ⟨a1, a2⟩; first | omega | (simp_all; done))]
      refine rRD ?_; apply zN
      exact wkD
  · have hi' : i = L.tl.length := by omega
    subst hi'
    have uU := Go.AM.uU; refine cRD ?_; apply zN
    exact VLe.of_eq (by rw [eRV, ew])
end Go.Proofs.T
end
section
namespace Go.Proofs.T
open Go Go.AM Go.Proofs
set_option maxRecDepth 20000
variable {Γ : List (Nat × List AVal)}
structure Opn where
  kind : Int
  cpu : Int
  task : Int
  group : Int
  weight : Int
  to : Int
  ticks : Int
  mask : Int
def opc (o : Opn) : List AVal := [.lit (.int .u8 o.kind), .lit (.int .i64 o.cpu), .lit (.int .i64 o.task), .lit (.int .i64 o.group), .lit (.int .i64 o.weight), .lit (.int .i64 o.to), .lit (.int .i64 o.ticks), .lit (.int .u64 o.mask)]
attribute [go_sem] opc
theorem setU_rows {L : LSt} {c : Nat} {x : Int} : ulR { L with ul := L.ul.set c x } = (ulR L).set c [.lit (.int .i64 x)] := by simp [ulR, List.map_set, inc]
def LSt.setU (L : LSt) (c : Nat) (x : Int) : LSt := { L with ul := L.ul.set c x }
theorem MH_setU {m tk c : Nat} {L : LSt} {x : Int} : MH m tk (L.setU c x) = (m, ⟨8, false, [mrow m tk L]⟩) :: (m + 1, ⟨2, true, glR L⟩) :: (m + 2, ⟨1, true, klR L⟩) :: (m + 3, ⟨1, true, (ulR L).set c [.lit (.int .i64 x)]⟩) :: (m + 5, ⟨1, false, ouR m L⟩) :: (tk, ⟨8, true, tlR L⟩) :: fam (m + 6) 3 L.sl.length (slR L) := by
  rw [MH, LH, LSt.setU, setU_rows]
  have e : mrow m tk { L with ul := L.ul.set c x } = mrow m tk L := by simp [mrow]
  rw [e]
  rfl
theorem setU_cur {L : LSt} {c d : Nat} {x : Int} (hc : c < L.ul.length) : (L.setU c x).cur d = if d = c then x else L.cur d := by
  unfold LSt.setU LSt.cur
  simp only [List.getD_eq_getElem?_getD, List.getElem?_set]
  by_cases h : d = c
  · subst h; simp [hc]
  · rw [if_neg (Ne.symm h), if_neg h]
theorem Rt0.setU {L : LSt} {n c : Nat} {x : Int} (h : Rt0 L n) (hc : c < n) (hx : x = 0 ∨ ∃ j, j < L.tl.length ∧ (L.tsk j).ready = true ∧ (L.tsk j).cpu = c ∧ (L.tsk j).id = x) : Rt0 (L.setU c x) n := by
  refine ⟨h.n1, h.n64, h.cpus, h.cr0, h.cr, h.ng, h.ns1, h.ns, h.nk, by show (L.ul.set c x).length = n; rw [List.length_set]; exact h.nu, h.rows, h.nt, h.par, h.par0, h.wt, h.clk, h.sp, h.root, fun i hi => by have t := h.tk i hi; exact ⟨t.id1, t.id2, t.g0, t.g1, t.c0, t.c1, t.e, t.v0, t.v1, t.r0, t.m0, t.m1, t.m2, t.m3⟩, h.sorted, fun d hd => ?_⟩
  rw [setU_cur (by rw [h.nu]; exact hc)]
  by_cases e : d = c
  · subst e
    rw [if_pos rfl]
    exact hx
  · rw [if_neg e]
    exact h.cur d hd
def res2 (a e : Int) : AVal := .tup [.lit (.int .i64 a), .lit (.int .i64 e)]
theorem lend_in {m tk : Nat} {L : LSt} (hm : m + 6 + L.sl.length ≤ tk) : ∀ (loc : Heap), (∀ x, x ∈ loc → tk < x.1) → ∀ id B, AM.look (MH m tk L) id = some B → AM.look (loc ++ MH m tk L) id = some B
  | [], _, id, B, h => h
  | (j, B0) :: r, hl, id, B, h => by
    have h1 := keyB_MH (show keyB (MH m tk L) id = true by simp [keyB, h])
    have h2 := hl (j, B0) (List.mem_cons_self ..)
    simp only [List.cons_append, AM.look]
    rw [if_neg (by simp only at h2; omega)]
    exact lend_in hm r (fun x hx => hl x (List.mem_cons_of_mem _ hx)) id B h
theorem MH_names {m tk k : Nat} {L : LSt} (hm : m + 6 + L.sl.length ≤ tk) (hk : tk < k) {g : Nat → Nat} (hg : ∀ i, i < k → g i = 0) : nub (((MH m tk L).map (·.1)).map g) = [0] :=
  nub_same (by simp [MH]) fun x hx => hg x (by
    simp only [List.mem_map] at hx
    obtain ⟨y, hy, rfl⟩ := hx
    obtain ⟨B, hB⟩ := look_isSome hy
    have := keyB_MH (show keyB (MH m tk L) y.1 = true by simp [keyB, hB])
    omega)
theorem lend {P : Program} {o : Oper} {ev : Operand → Option AVal} {k m tk : Nat} {L : LSt} {loc : Heap} {f : Operand} {args : Array Operand} {ty : Array TypeId} {g : FuncId} {v : Value} {vs : List AVal} {NM : List Nat} (hm : m + 6 + L.sl.length ≤ tk)
    (ho : o.op = .call { callee := .value f, args := args, argTypes := ty }) (hg : callable P g = true) (hf : ev f = some (.fn g [])) (ha : evArgs ev args.toList = some (.ptr m 0 0 :: vs)) (hv : (vs.all fun v => match v with | .lit _ => true | _ => false) = true)
    (hl : ∀ x, x ∈ loc → tk < x.1) (hp : Pure P Γ g (.rp (mcL L) :: vs) (.lit v)) (hN : NM = (MH m tk L).map (·.1)) : AM.Good P Γ o ev (AM.look (loc ++ MH m tk L)) k ⟨.lit v, k, [], NM⟩ := by
  subst hN
  have hb : BorL Γ (MH m tk L) vs vs := by
    clear ha hp
    induction vs with
    | nil => exact .nil
    | cons x r ih =>
      simp only [List.all_cons, Bool.and_eq_true] at hv
      refine .cons ?_ (ih hv.2)
      cases x with
      | lit u => exact Bor.lit
      | _ => cases hv.1
  exact ro_good ho hg hf ha (.cons (MH_bor hm) hb) (lend_in hm loc hl) rfl hp
structure Fwd (L L' : LSt) : Prop where
  cpus : L'.cpus = L.cpus
  credit : L'.credit = L.credit
  ns : L'.sl.length = L.sl.length
  par : ∀ g, L'.par g = L.par g
  clk : ∀ c, L.clk c ≤ L'.clk c
  fl : ∀ g c, (L.sp g c).floor ≤ (L'.sp g c).floor
  nt : L'.tl.length ≤ L.tl.length + 1
  w0 : L'.wt 0 = L.wt 0
theorem Fwd.refl (L : LSt) : Fwd L L := ⟨rfl, rfl, rfl, fun _ => rfl, fun _ => Int.le_refl _, fun _ _ => Int.le_refl _, by omega, rfl⟩
def OpOk (Γ : List (Nat × List AVal)) (f : FuncId) (L : LSt) (n : Nat) (o : Opn) (m tk k : Nat) : Prop :=
  ∃ L' a e tk' k', Rt0 L' n ∧ (Fwd L L' ∧ (e = 0 ∨ L' = L)) ∧ m + 6 + L.sl.length ≤ tk' ∧ (tk' < k' ∧ (tk' = tk ∨ k ≤ tk')) ∧ k ≤ k' ∧
    Tr Tryz.prog Γ f k [.ptr m 0 0, .agg (opc o)] (MH m tk L) (fun k1 r1 H1 => k1 = k' ∧ r1 = res2 a e ∧ H1 = MH m tk' L')
set_option maxHeartbeats 8000000 in
theorem pick (L : LSt) (n : Nat) (hS : Rt0 L n) (o : Opn) (m tk k : Nat) (hm : m + 6 + L.sl.length ≤ tk) (hk : tk < k) :
    OpOk Γ 35 L n o m tk k := by
  by_cases hc : 0 ≤ o.cpu ∧ o.cpu < L.cpus
  · obtain ⟨c, hcc⟩ : ∃ c : Nat, o.cpu = (c : Int) := ⟨o.cpu.toNat, by omega⟩
    have hcp := hS.cpus
    have hcn : c < n := by omega
    obtain ⟨F, hF⟩ : ∃ F, F = firstF L L.sl.length 0 c := ⟨_, rfl⟩
    have hfm := firstF_mem (L := L) (c := c) (f := L.sl.length) (g := 0) (by have := hS.ns1; omega)
    rw [← hF] at hfm
    refine ⟨L.setU c F, F, 0, tk, k, hS.setU hcn (by rcases hfm with h | ⟨j, h1, h2, h3, h4⟩; exact .inl h; exact .inr ⟨j, h1, h2, h3, h4.symm⟩), ⟨⟨rfl, rfl, rfl, fun _ => rfl, fun _ => Int.le_refl _, fun _ _ => Int.le_refl _, Nat.le_succ _, rfl⟩, .inl rfl⟩, hm, ⟨hk, .inl rfl⟩, Nat.le_refl _, ?_⟩
    have hfp := firstP L n c hS.shp hcn hS.ns1 (Γ := Γ)
    rw [← hF] at hfp
    have hLs : (L.setU c F).sl.length = L.sl.length := rfl
    obtain ⟨RH, eRH⟩ : ∃ x : Heap, x = MH m tk (L.setU c F) := ⟨_, rfl⟩; obtain ⟨RV, eRV⟩ : ∃ x : AVal, x = res2 F 0 := ⟨_, rfl⟩; refine Tr.mono (Tr_in (k := k) (V := RV) (RH := RH) (by omega) (by rw [eRV]; rfl) (by rw [eRH]; exact MH_lt (by omega) (by omega)) ?_) (fun _ _ _ h => ⟨h.1, h.2.1.trans eRV, h.2.2.trans eRH⟩)
    refine Tr_at Tryz.func35 rfl 32 rfl (Nat.le_of_ble_eq_true rfl) ?_
    simp only [MH, LH]
    have hnu := hS.nu
    obtain ⟨NM, eNM⟩ : ∃ x, x = (MH m tk L).map (·.1) := ⟨_, rfl⟩
    have hNM : nub (NM.map (fun i => if k ≤ i then i - k + 1 else 0)) = [0] := by rw [eNM]; exact MH_names hm hk (fun i hi => if_neg (by omega))
    have hcpu := cpu L o.cpu m tk (k + 1) hm (by omega) (Γ := Γ)
    rw [decide_eq_true hc, hcc] at hcpu
    have kp : Kp [0,1,3,4,5,10] (fun i => if k ≤ i then i - k + 1 else 0) := kpI
    have uU := @hcc
    refine wlL ?_; refine zq1 ⟨⟨⟨?_⟩⟩⟩
    refine clL [.far (.lit (.bool true)) (k + 1) [(k, ⟨8, true, [opc o]⟩)] (MH m tk L) (MH m tk L)] ?_; refine zq3 ⟨⟨⟨?_⟩⟩⟩ ⟨⟨⟨?_⟩⟩⟩ ⟨⟨⟨?_⟩⟩⟩
    · intro i; simp only [MH, LH, mrow, opc, hcc, List.cons_append, List.nil_append]
    · exact MH_apart (fun i hi => by simp only [AM.look]; repeat (rw [if_neg (by omega)])) rfl
    simp only [MH, LH]
    refine rRL ?_; apply zN
    have uU := zA @hcc @hNM
    refine wlL ?_; refine zq1 ⟨fun ht => ⟨⟨?_⟩⟩⟩
    refine dlL [.raw (some 21) ⟨.lit (.int .i64 F), k + 1, [], NM⟩] ?_; refine zq2 ⟨⟨⟨?_⟩⟩⟩ ⟨⟨⟨?_⟩⟩⟩
    · exact lend (loc := [(k, ⟨8, true, _⟩)]) hm rfl (by kernel_rfl) rfl rfl rfl (fun x hx => by rw [List.mem_singleton.1 hx]; exact hk) hfp eNM
    have hset : ((ulR L).set c [.lit (.int .i64 F)])[c]? = some [.lit (.int .i64 F)] := List.getElem?_set_self (by rw [ulR_len]; omega)
    have uU := zA @hcc @hset
    refine wlL ?_; refine zq1 ⟨⟨⟨?_⟩⟩⟩
    have uU := zA @hcc @hset; refine cRD ?_; apply zN
    refine ⟨?_, ?_⟩
    · rw [eRV]; rfl
    · rw [eRH, MH_setU]
      simp only [mrow]
      exact rRL hdT
  · refine ⟨L, 0, 300, tk, k, hS, ⟨Fwd.refl L, .inr rfl⟩, hm, ⟨hk, .inl rfl⟩, Nat.le_refl _, ?_⟩
    obtain ⟨RH, eRH⟩ : ∃ x : Heap, x = MH m tk L := ⟨_, rfl⟩; obtain ⟨RV, eRV⟩ : ∃ x : AVal, x = res2 0 300 := ⟨_, rfl⟩; refine Tr.mono (Tr_in (k := k) (V := RV) (RH := RH) (by omega) (by rw [eRV]; rfl) (by rw [eRH]; exact MH_lt (by omega) (by omega)) ?_) (fun _ _ _ h => ⟨h.1, h.2.1.trans eRV, h.2.2.trans eRH⟩)
    refine Tr_at Tryz.func35 rfl 32 rfl (Nat.le_of_ble_eq_true rfl) ?_
    simp only [MH, LH]
    have hcpu := cpu L o.cpu m tk (k + 1) hm (by omega) (Γ := Γ)
    rw [decide_eq_false hc] at hcpu
    have kp : Kp [0,1,3,4,5,10] (fun i => if k ≤ i then i - k + 1 else 0) := kpI
    refine wlL ?_; refine zq1 ⟨⟨⟨?_⟩⟩⟩
    refine clL [.far (.lit (.bool false)) (k + 1) [(k, ⟨8, true, [opc o]⟩)] (MH m tk L) (MH m tk L)] ?_; refine zq3 ⟨⟨⟨?_⟩⟩⟩ ⟨⟨⟨?_⟩⟩⟩ ⟨⟨⟨?_⟩⟩⟩
    · intro i; simp only [MH, LH, mrow, opc, List.cons_append, List.nil_append]
    · exact MH_apart (fun i hi => by simp only [AM.look]; repeat (rw [if_neg (by omega)])) rfl
    simp only [MH, LH]
    refine rRL ?_; apply zN
    refine wlL ?_; refine zq1 ⟨fun ht => ⟨⟨?_⟩⟩⟩
    have uU := Go.AM.uU; refine cRD ?_; apply zN
    refine ⟨?_, ?_⟩
    · rw [eRV]; rfl
    · rw [eRH]
      simp only [MH, LH]
      exact rRL hdT
end Go.Proofs.T
end
