import Derived.Test.YtkiadljldlppbaaGreatDoorZAV
import Derived.ChangeMaps5
import Derived.Lay
import Derived.MakeChecks
import Derived.Carry
set_option linter.unusedVariables false
set_option linter.unusedSimpArgs false
section
namespace Go.Proofs.T
open Go Go.AM Go.Proofs
set_option maxRecDepth 20000
variable {Γ : List (Nat × List AVal)}
def grR (s : St) : List (List AVal) := (List.range s.ng).map (gf s)
theorem copyConfigO (s : St) (hs : s.Small) (hpos : 0 < s.ng) (k : Nat) :
    Tr Tryz.prog Γ 50 k [.agg s.cfg] [] (fun k1 r1 H1 => k1 = k + 3 ∧ r1 = .agg [.lit (.int .i64 s.cpus), .lit (.int .u64 s.credit), .sl (k + 2) 0 s.ng] ∧ H1 = [(k + 2, ⟨2, true, grR s⟩)]) := by
  have hng := hs.ng
  obtain ⟨RH, eRH⟩ : ∃ x : Heap, x = [(k + 2, ⟨2, true, grR s⟩)] := ⟨_, rfl⟩
  refine Tr.mono (Tr_in (kk := k + 3) (V := .agg [.lit (.int .i64 s.cpus), .lit (.int .u64 s.credit), .sl (k + 2) 0 s.ng]) (RH := RH) (by omega) (by simp [bd, bd1, bd0, ltB]) (by rw [eRH]; exact bdH_cons1 (by simp only [ltB, decide_eq_true_eq]; omega) rfl) ?_) (fun _ _ _ h => ⟨h.1, h.2.1, h.2.2.trans eRH⟩)
  refine Tr_at Tryz.func50 rfl 10 rfl (Nat.le_of_ble_eq_true rfl) ?_
  have hne : s.ng ≠ 0 := by omega
  have eg : (List.range s.ng).map (gf s) = grR s := rfl
  have hone : ((grR s).all fun row => row.all AM.one) = true := rows_one_of _ _ fun _ => rfl
  have kp : Kp [0,1,2,3] (fun i => i - k) := kpI
  have uU := zA @hne (zA @hpos (zA @eg @hone))
  refine wl ?_ <;> and_intros <;> first | exact hdT | (apply zM; (repeat intro ht); apply zM; (repeat intro hg); apply zM)
  refine C_ret rfl ?_; simp -dsimp -implicitDefEqProofs only [go_sem, hne, hpos, eg, hone, eq_self, ↓reduceIte]; refine ⟨_, rfl, ?_⟩
  refine ⟨rfl, ?_⟩
  rw [eRH]
  refine rR ?_ <;> first | exact hdT | apply zN
def klR' (s : St) : List (List AVal) := (List.range s.nk).map (kf s)
theorem copyIntsO (s : St) (hn : s.nk ≤ 1000) (hpos : 0 < s.nk) (k : Nat) :
    Tr Tryz.prog Γ 51 k [.rd 1 s.nk (kf s)] [] (fun k1 r1 H1 => k1 = k + 1 ∧ r1 = .sl k 0 s.nk ∧ H1 = [(k, ⟨1, true, klR' s⟩)]) := by
  obtain ⟨RH, eRH⟩ : ∃ x : Heap, x = [(k, ⟨1, true, klR' s⟩)] := ⟨_, rfl⟩
  refine Tr.mono (Tr_in (kk := k + 1) (V := .sl k 0 s.nk) (RH := RH) (by omega) (by simp [bd, bd1, bd0, ltB]) (by rw [eRH]; exact bdH_cons1 (by simp only [ltB, decide_eq_true_eq]; omega) rfl) ?_) (fun _ _ _ h => ⟨h.1, h.2.1, h.2.2.trans eRH⟩)
  refine Tr_at Tryz.func51 rfl 7 rfl (Nat.le_of_ble_eq_true rfl) ?_
  have hne : s.nk ≠ 0 := by omega
  have eg : (List.range s.nk).map (kf s) = klR' s := rfl
  have hone : ((klR' s).all fun row => row.all AM.one) = true := rows_one_of _ _ fun _ => rfl
  have kp : Kp [0,2,3] (fun i => i - k) := kpI
  have uU := zA @hne (zA @hpos (zA @eg @hone))
  refine wl ?_ <;> and_intros <;> first | exact hdT | (apply zM; (repeat intro ht); apply zM; (repeat intro hg); apply zM)
  refine C_ret rfl ?_; simp -dsimp -implicitDefEqProofs only [go_sem, hne, hpos, eg, hone, eq_self, ↓reduceIte]; refine ⟨_, rfl, ?_⟩
  refine ⟨rfl, ?_⟩
  rw [eRH]
  refine rR ?_ <;> first | exact hdT | apply zN
theorem Tr_inV {P : Program} {f : FuncId} {k kk : Nat} {args : List AVal} {H RH : Heap} {V : AVal} (hk : k ≤ kk) (hb : bd (ltB kk) V = true) (hB : bdH (ltB kk) RH = true) (h : Tr P Γ f k args H (fun _ r1 H1 => VLe r1 V ∧ leH H1 RH)) :
    Tr P Γ f k args H (fun k1 r1 H1 => k1 = kk ∧ r1 = V ∧ H1 = RH) :=
  Tr.weaken h fun k' r H' _ hq => ⟨kk, V, RH, hk, hq.1, fun id B hid => ⟨B, leH_look hq.2 id B hid, BLe.refl B⟩, .inr ⟨hb, hB⟩, rfl, rfl, rfl⟩
theorem copyStateO (s : St) (hs : s.Small) (hg0 : 0 < s.ng) (hk0 : 0 < s.nk) (k : Nat) :
    Tr Tryz.prog Γ 21 k [.agg s.cells] [] (fun k1 r1 H1 => k1 = k + 8 ∧ r1 = .agg [.lit (.int .i64 s.cpus), .lit (.int .u64 s.credit), .sl (k + 5) 0 s.ng, .sl (k + 6) 0 s.nk, .rd 1 s.nu (uf s), .rd 8 s.nt (tf s), .rd 1 s.ns (ssf s)] ∧ H1 = [(k + 6, ⟨1, true, klR' s⟩), (k + 5, ⟨2, true, grR s⟩)]) := by
  obtain ⟨hng, hnk, hnu, hnt, hns, hnsp⟩ := id hs
  obtain ⟨RH, eRH⟩ : ∃ x : Heap, x = [(k + 6, ⟨1, true, klR' s⟩), (k + 5, ⟨2, true, grR s⟩)] := ⟨_, rfl⟩
  refine Tr.mono (Tr_inV (kk := k + 8) (V := .agg [.lit (.int .i64 s.cpus), .lit (.int .u64 s.credit), .sl (k + 5) 0 s.ng, .sl (k + 6) 0 s.nk, .rd 1 s.nu (uf s), .rd 8 s.nt (tf s), .rd 1 s.ns (ssf s)]) (RH := RH) (by omega) (by simp [bd, bd1, bd0, ltB]) (by rw [eRH]; exact bdH_cons1 (by simp only [ltB, decide_eq_true_eq]; omega) (bdH_cons1 (by simp only [ltB, decide_eq_true_eq]; omega) rfl)) ?_) (fun _ _ _ h => ⟨h.1, h.2.1, h.2.2.trans eRH⟩)
  refine Tr_at Tryz.func21 rfl 44 rfl (Nat.le_of_ble_eq_true rfl) ?_
  have kp : Kp [0,1,2,3,4,5,6,11] (fun i => i - k) := kpI
  refine wl ?_ <;> and_intros <;> first | exact hdT | (apply zM; (repeat intro ht); apply zM; (repeat intro hg); apply zM)
  refine M_forO (X := Nat) rfl [0,1,2,3,4,5,6,11] (k + 3) (fun i => [(5, .lit (.int .i64 (i : Int))), (4, accV (k + 2) (spL s i))]) (fun i => accH (k + 2) 1 (spL s i) [(k + 1, ⟨7, true, [zst]⟩), (k, ⟨7, true, [s.cells]⟩)]) (fun i => i ≤ s.ns) (fun i => s.ns - i) 0 ?_ (Nat.zero_le _) ?_
  · rw [spL_zero]
    refine rR ?_ <;> first | exact hdT | apply zN
    exact wkF
  intro i hi
  refine rR ?_ <;> first | exact hdT | apply zN
  have hcl : ((spL s i ++ [ssf s i]).all fun row => row.all clean) = true := by rw [← spL_succ]; exact spL_clean s (i + 1)
  by_cases hi2 : i < s.ns
  · by_cases hz : s.nsp i = 0
    · have uU := @hz
      refine wl ?_ <;> and_intros <;> first | exact hdT | (apply zM; (repeat intro ht); apply zM; (repeat intro hg); apply zM)
      refine ⟨i + 1, by omega, by omega, ?_⟩
      rw [spL_succ]
      refine Mv.trans (Mv.row (k + 4) (ssf s i) (by simp -dsimp -implicitDefEqProofs only [go_sem, hz, List.map_append, List.map_cons, List.map_nil, Flt.row, eq_self, ↓reduceIte]; rfl) (by rw [ssf, hz]; exact .cons (VLe.nil _ _) .nil) hcl) ?_
      exact Mv.app (k + 4) (k + 2) ⟨by omega, by omega⟩ ⟨by omega, by omega⟩ (wk_low (by omega) (by simp -dsimp -implicitDefEqProofs only [go_sem, hz, List.map_append, List.map_cons, List.map_nil, Flt.row, eq_self, ↓reduceIte]) (by simp -dsimp -implicitDefEqProofs only [go_sem, hz, List.map_append, List.map_cons, List.map_nil, Flt.row, eq_self, ↓reduceIte]) (by simp -dsimp -implicitDefEqProofs only [go_sem, hz, List.map_append, List.map_cons, List.map_nil, Flt.row, eq_self, ↓reduceIte]) (by simp -dsimp -implicitDefEqProofs only [go_sem, hz, List.map_append, List.map_cons, List.map_nil, Flt.row, eq_self, ↓reduceIte]))
    · have hpos : 0 < s.nsp i := by omega
      have hle : s.nsp i ≤ 1000 := hnsp i (by omega)
      have uU := zA @hz @hpos
      refine wl ?_ <;> and_intros <;> first | exact hdT | (apply zM; (repeat intro ht); apply zM; (repeat intro hg); apply zM)
      refine ⟨i + 1, by omega, by omega, ?_⟩
      rw [spL_succ]
      refine Mv.trans (Mv.freeze (k + 3) (by simp -dsimp -implicitDefEqProofs only [go_sem, hz, hpos, eq_self, ↓reduceIte]; rfl) rfl) ?_
      simp -dsimp -implicitDefEqProofs only [frzF, frz_app, go_sem, hz, hpos, frz_rows (spL_clean s i), eq_self, ↓reduceIte]
      refine Mv.trans (Mv.row (k + 5) (ssf s i) (by simp -dsimp -implicitDefEqProofs only [go_sem, hz, hpos, frz_rows (spL_clean s i), List.map_append, List.map_cons, List.map_nil, Flt.row, eq_self, ↓reduceIte]; rfl) (.cons (VLe.copy' _ _ _) .nil) hcl) ?_
      exact Mv.app (k + 5) (k + 2) ⟨by omega, by omega⟩ ⟨by omega, by omega⟩ (wk_low (by omega) (by simp -dsimp -implicitDefEqProofs only [go_sem, hz, hpos, frz_rows (spL_clean s i), List.map_append, List.map_cons, List.map_nil, Flt.row, eq_self, ↓reduceIte]) (by simp -dsimp -implicitDefEqProofs only [go_sem, hz, hpos, frz_rows (spL_clean s i), List.map_append, List.map_cons, List.map_nil, Flt.row, eq_self, ↓reduceIte]) (by simp -dsimp -implicitDefEqProofs only [go_sem, hz, hpos, frz_rows (spL_clean s i), List.map_append, List.map_cons, List.map_nil, Flt.row, eq_self, ↓reduceIte]) (by simp -dsimp -implicitDefEqProofs only [go_sem, hz, hpos, frz_rows (spL_clean s i), List.map_append, List.map_cons, List.map_nil, Flt.row, eq_self, ↓reduceIte]))
  · have hi' : i = s.ns := by omega
    subst hi'
    refine wl ?_ <;> and_intros <;> first | exact hdT | (apply zM; (repeat intro ht); apply zM; (repeat intro hg); apply zM)
    have hv : VLe (rows 1 (spL s s.ns)) (.rd 1 s.ns (ssf s)) := by
      rw [rows, spL_len]
      exact VLe.copy' _ _ _
    refine W_mv (Mv.frz_at (id := k + 2) (s := 1) (l := spL s s.ns) 4 (.rd 1 s.ns (ssf s)) [(k + 1, ⟨7, true, [zst]⟩), (k, ⟨7, true, [s.cells]⟩)] (by simp -dsimp -implicitDefEqProofs only [go_sem, List.map_append, List.map_cons, List.map_nil, Flt.row, eq_self, ↓reduceIte]) (by simp -dsimp -implicitDefEqProofs only [go_sem, List.map_append, List.map_cons, List.map_nil, Flt.row, eq_self, ↓reduceIte]) hv (by simp -dsimp -implicitDefEqProofs only [go_sem, List.map_append, List.map_cons, List.map_nil, Flt.row, eq_self, ↓reduceIte]) (by simp -dsimp -implicitDefEqProofs only [go_sem, List.map_append, List.map_cons, List.map_nil, Flt.row, eq_self, ↓reduceIte])) ?_
    refine rR ?_ <;> first | exact hdT | apply zN
    have hcc := copyConfigO s hs hg0 (k + 3) (Γ := Γ)
    have hck := copyIntsO s hnk hk0 (k + 6) (Γ := Γ)
    rcases Nat.eq_zero_or_pos s.nt with hz | hpos
    · have uU := @hz
      refine dl [.gen (.agg [.lit (.int .i64 s.cpus), .lit (.int .u64 s.credit), .sl (k + 5) 0 s.ng]) (k + 6) [] [(k + 5, ⟨2, true, grR s⟩)], .gen (.sl (k + 6) 0 s.nk) (k + 7) [] [(k + 6, ⟨1, true, klR' s⟩)], .ret (.rd 1 s.nu (uf s))] ?_ <;> and_intros <;> first | exact hdT | (apply zM; (repeat intro ht); apply zM; (repeat intro hg); apply zM)
      · exact hcc
      · exact copyInts s.nu s.cur hnu
      refine wl ?_ <;> and_intros <;> first | exact hdT | (apply zM; (repeat intro ht); apply zM; (repeat intro hg); apply zM)
      refine C_ret rfl ?_; simp -dsimp -implicitDefEqProofs only [go_sem, hz, eq_self, ↓reduceIte]; refine ⟨_, rfl, ?_⟩
      refine ⟨VLe.aggs (.cons (VLe.refl _) (.cons (VLe.refl _) (.cons (VLe.refl _) (.cons (VLe.refl _) (.cons (VLe.refl _) (.cons (VLe.nil _ _) (.cons (VLe.refl _) .nil))))))), ?_⟩
      rw [eRH]
      refine rR ?_ <;> first | exact hdT | apply zN
    · have hne : ¬ s.nt = 0 := by omega
      have uU := zA @hne @hpos
      refine dl [.gen (.agg [.lit (.int .i64 s.cpus), .lit (.int .u64 s.credit), .sl (k + 5) 0 s.ng]) (k + 6) [] [(k + 5, ⟨2, true, grR s⟩)], .gen (.sl (k + 6) 0 s.nk) (k + 7) [] [(k + 6, ⟨1, true, klR' s⟩)], .ret (.rd 1 s.nu (uf s))] ?_ <;> and_intros <;> first | exact hdT | (apply zM; (repeat intro ht); apply zM; (repeat intro hg); apply zM)
      · exact hcc
      · exact copyInts s.nu s.cur hnu
      refine wl ?_ <;> and_intros <;> first | exact hdT | (apply zM; (repeat intro ht); apply zM; (repeat intro hg); apply zM)
      refine W_mv (Mv.freeze (k + 7) (by simp -dsimp -implicitDefEqProofs only [go_sem, hne, hpos, eq_self, ↓reduceIte]; rfl) rfl) ?_; simp -dsimp -implicitDefEqProofs only [frzF, frz_app, go_sem, hne, hpos, eq_self, ↓reduceIte]
      refine C_ret rfl ?_; simp -dsimp -implicitDefEqProofs only [go_sem, hne, hpos, eq_self, ↓reduceIte]; refine ⟨_, rfl, ?_⟩
      refine ⟨VLe.aggs (.cons (VLe.refl _) (.cons (VLe.refl _) (.cons (VLe.refl _) (.cons (VLe.refl _) (.cons (VLe.refl _) (.cons (VLe.copy' _ _ _) (.cons (VLe.refl _) .nil))))))), ?_⟩
      rw [eRH]
      refine rR ?_ <;> first | exact hdT | apply zN
end Go.Proofs.T
end
section
namespace Go.Proofs.T
open Go Go.AM Go.Proofs
set_option maxRecDepth 20000
variable {Γ : List (Nat × List AVal)}
def hvW (v w : Int) : Int := if 65536 < v + 1 + w then 65536 else v + 1 + w
def hvG (L : LSt) (w : Int) (i : Nat) : List (Int × Int) := (List.range L.gl.length).map fun g => (L.par g, if 0 < g ∧ g < i then hvW (L.wt g) w else L.wt g)
def hvL (L : LSt) (w : Int) : LSt := { L with gl := hvG L w L.gl.length }
theorem hvG_len {L : LSt} {w : Int} {i : Nat} : (hvG L w i).length = L.gl.length := by simp [hvG]
theorem hv_par {L : LSt} {w : Int} (x : Nat) : (hvL L w).par x = L.par x := by
  by_cases h : x < L.gl.length
  · simp [LSt.par, hvL, hvG, List.getD_eq_getElem?_getD, h]
  · simp [LSt.par, hvL, hvG, List.getD_eq_getElem?_getD, h]
theorem hv_wt {L : LSt} {w : Int} {x : Nat} (h : x < L.gl.length) : (hvL L w).wt x = if 0 < x then hvW (L.wt x) w else L.wt x := by
  simp [LSt.wt, hvL, hvG, List.getD_eq_getElem?_getD, h]
theorem hv_wt0 {L : LSt} {w : Int} : (hvL L w).wt 0 = L.wt 0 := by
  by_cases h : 0 < L.gl.length
  · rw [hv_wt h, if_neg (Nat.lt_irrefl 0)]
  · simp [LSt.wt, hvL, hvG, List.getD_eq_getElem?_getD, h]
theorem hv_lT {L : LSt} {w g c : Int} : ∀ i, lT (hvL L w) g c i = lT L g c i
  | 0 => rfl
  | i + 1 => by rw [lT, lT, hv_lT i]; rfl
theorem hv_lS {L : LSt} {w : Int} {F : Nat → Option Mb} {g c : Nat} : ∀ j, lS (hvL L w) F g c j = lS L F g c j
  | 0 => hv_lT _
  | j + 1 => by rw [lS, lS, hv_lS j, hv_par]; rfl
theorem hv_leastF {L : LSt} {w : Int} : ∀ f g c, leastF (hvL L w) f g c = leastF L f g c
  | 0, _, _ => rfl
  | f + 1, g, c => by
    rw [leastF, leastF, hv_lS]
    show lS L _ g c (L.sl.length - (g + 1)) = _
    congr 1
    funext h
    exact hv_leastF f h c
theorem ent_mono {v r w w' : Int} (h : ent v r w = true) (h1 : w ≤ w') (h2 : w' ≤ 65536) : ent v r w' = true := by
  simp only [ent, decide_eq_true_eq] at h ⊢
  omega
theorem hv_ge {v w : Int} (h0 : 0 ≤ w) (h : v ≤ 65536) : v ≤ hvW v w ∧ hvW v w ≤ 65536 := by unfold hvW; split <;> omega
theorem hv_later {L : LSt} {w : Int} : Later L (hvL L w) := ⟨rfl, rfl, rfl, hv_par, fun _ => Int.le_refl _, fun _ _ => Int.le_refl _, hv_wt0⟩
theorem hv_rt {L : LSt} {n : Nat} {w : Int} (h : Rt L n) (hw : 0 ≤ w) : Rt (hvL L w) n := by
  obtain ⟨r, hf, hc⟩ := h
  have wt2 : ∀ g, g < L.sl.length → L.wt g ≤ (hvL L w).wt g ∧ (hvL L w).wt g ≤ 65536 := fun g hg => by
    rw [hv_wt (by rw [r.ng]; exact hg)]
    have := r.wt g hg
    split
    · exact hv_ge hw this.2
    · omega
  have r0 : Rt0 (hvL L w) n := { r with
    ng := hvG_len.trans r.ng
    par := fun g h0 hg => by rw [hv_par]; exact r.par g h0 hg
    par0 := by rw [hv_par]; exact r.par0
    wt := fun g hg => ⟨by have := r.wt g hg; have := wt2 g hg; omega, (wt2 g hg).2⟩
    sp := fun g c hg hcn => by
      obtain ⟨h1, h2⟩ := r.sp g c hg hcn
      exact ⟨ent_mono h1 (wt2 g hg).1 (wt2 g hg).2, h2⟩
    tk := fun i hi => by
      obtain ⟨a, b, c, d, e, f, g, h, i, j, k, l, m, n⟩ := r.tk i hi
      exact ⟨a, b, c, d, e, f, g, h, i, j, k, l, m, n⟩ }
  exact ⟨r0, fun g c hg hcn x hx => hf g c hg hcn x (by rw [← hx]; exact (hv_leastF _ g c).symm), cfg_later r r0 hv_later hc⟩
def hvR (L : LSt) (w : Int) (i : Nat) : List (List AVal) := (List.range L.gl.length).map fun g => [.lit (.int .i64 (L.par g)), .lit (.int .i64 (if 0 < g ∧ g < i then hvW (L.wt g) w else L.wt g))]
theorem hvR_len {L : LSt} {w : Int} {i : Nat} : (hvR L w i).length = L.gl.length := by simp [hvR]
theorem hvR_zero {L : LSt} {w : Int} : hvR L w 0 = (List.range L.gl.length).map (gf L.st) := List.map_congr_left fun g _ => by
  rw [if_neg (by omega)]; rfl
theorem hvR_one {L : LSt} {w : Int} : hvR L w 1 = hvR L w 0 := List.map_congr_left fun g _ => by
  rw [if_neg (by omega), if_neg (by omega)]
theorem hvR_get {L : LSt} {w : Int} {i : Nat} (h : i < L.gl.length) : (hvR L w i)[i]? = some [.lit (.int .i64 (L.par i)), .lit (.int .i64 (L.wt i))] := by
  simp [hvR, h]
theorem hvR_set {L : LSt} {w : Int} {i : Nat} (h0 : 0 < i) : (hvR L w i).set i [.lit (.int .i64 (L.par i)), .lit (.int .i64 (hvW (L.wt i) w))] = hvR L w (i + 1) := List.ext_getElem? fun j => by
  rw [List.getElem?_set]
  by_cases e : i = j
  · subst e
    rw [if_pos rfl]
    by_cases hl : i < L.gl.length
    · rw [if_pos (by rw [hvR_len]; exact hl)]
      simp [hvR, hl, h0]
    · rw [if_neg (by rw [hvR_len]; exact hl), List.getElem?_eq_none (by rw [hvR_len]; omega)]
  · rw [if_neg e]
    by_cases hl : j < L.gl.length
    · have : (0 < j ∧ j < i + 1) ↔ (0 < j ∧ j < i) := by omega
      simp [hvR, hl, this]
    · rw [List.getElem?_eq_none (by rw [hvR_len]; omega), List.getElem?_eq_none (by rw [hvR_len]; omega)]
theorem hvR_last {L : LSt} {w : Int} {q : Nat} (h : q < L.gl.length) : (hvR L w L.gl.length).getD q [] = gf (hvL L w).st q := by
  simp [hvR, List.getD_eq_getElem?_getD, h, gf, LSt.st, hvL, hvG]
theorem hvR_clean {L : LSt} {w : Int} {i : Nat} : ((hvR L w i).all fun row => row.all clean) = true := all_clean fun _ => rfl
def bdSt (s : St) : St := { s with nk := s.nk + 1, clk := fun i => if i < s.nk then s.clk i else 0 }
theorem bd_bad {s : St} (h : (s.nk : Int) = s.cpus) (hc : refCfg s = true) : 0 < (checkR (bdSt s)).length := by
  have e : refCfg (bdSt s) = true := hc
  have h1 : ((bdSt s).nk : Int) ≠ (bdSt s).cpus := by show ((s.nk + 1 : Nat) : Int) ≠ s.cpus; omega
  have h2 : 0 < (shapesL (bdSt s)).length := by
    unfold shapesL
    rw [if_pos h1]
    simp only [List.length_append, List.length_cons]
    omega
  rw [checkR, if_neg (by rw [e]; simp), if_pos h2]
  exact h2
theorem bd_pre {s : St} (h : PreOk s) (hn : s.nk ≤ 900) : PreOk (bdSt s) := ⟨⟨h.sm.ng, by show s.nk + 1 ≤ 1000; omega, h.sm.nu, h.sm.nt, h.sm.ns, h.sm.nsp⟩, h.n12, h.p12⟩
theorem bd_kinds {s : St} (h : Kinds s) : Kinds (bdSt s) := ⟨⟨h.wf.mask0, h.wf.mask1, h.wf.tv, h.wf.tr, h.wf.sv, h.wf.sr⟩, h.v0⟩
theorem z_bad : 0 < (checkR zSt).length := by decide
theorem z_pre : PreOk zSt := ⟨⟨Nat.zero_le _, Nat.zero_le _, Nat.zero_le _, Nat.zero_le _, Nat.zero_le _, fun g hg => Nat.zero_le _⟩, Nat.zero_le _, fun g hg => Nat.zero_le _⟩
theorem z_kinds : Kinds zSt := ⟨⟨fun _ => by simp [zSt], fun _ => by simp [zSt], fun _ => by simp [zSt], fun _ => by simp [zSt], fun _ _ => by simp [zSt], fun _ _ => by simp [zSt]⟩, fun _ _ => by simp [zSt]⟩
theorem step_bad {a b : St} (hq : PreOk a) (hq' : PreOk b) (hk : Kinds a) (hk' : Kinds b) (h : badP a b) :
    AM.Pure Tryz.prog Γ 15 [.agg a.cells, .agg b.cells] (.tup [.rd 3 0 (fun _ => []), .lit (.int .i64 320)]) := by
  have hs := step a b hq hq' hk hk' (Γ := Γ)
  rw [stepF2, stepE2, if_pos h, if_pos h] at hs
  exact hs
theorem mstep2 {L M : LSt} {n n' : Nat} (hn : n ≤ 12) (hn' : n' ≤ 12) (hL : Rt L n) (hM : Rt M n') (h1 : L.sl.length ≤ 12) (h2 : M.sl.length ≤ 12) :
    AM.Pure Tryz.prog Γ 15 [.agg L.st.cells, .agg M.st.cells] (.tup [rows 3 ((if alB L.st M.st L.st.ng = false then [⟨17, 0, 0⟩] else movesL L.st M.st).map Flt.row), .lit (.int .i64 0)]) := by
  have h := step L.st M.st (hL.r0.preOk h1 hn) (hM.r0.preOk h2 hn') hL.r0.kinds hM.r0.kinds (Γ := Γ)
  have hb : ¬ badP L.st M.st := by
    unfold badP
    rw [check_no hL.r0 hL.fl h1 hL.cfg, check_no hM.r0 hM.fl h2 hM.cfg]
    simp
  rw [stepF2, stepE2, if_neg hb, if_neg hb] at h
  exact h
theorem moves_rule {a b : St} {z : Flt} (h : z ∈ movesL a b) : z.r = 15 ∨ z.r = 16 := by
  unfold movesL at h
  rcases List.mem_append.1 h with h | h
  · obtain ⟨c, _, h⟩ := mem_flats.1 h
    obtain ⟨_, rfl⟩ := mem_iff1.1 h
    exact .inl rfl
  · obtain ⟨g, _, h⟩ := mem_flats.1 h
    obtain ⟨c, _, h⟩ := mem_flats.1 h
    obtain ⟨_, rfl⟩ := mem_iff1.1 h
    exact .inr rfl
end Go.Proofs.T
end
section
namespace Go.Proofs.T
open Go Go.AM Go.Proofs
set_option maxRecDepth 20000
set_option maxHeartbeats 8000000 in
theorem auditOther (x : Nums) (hx : NumsOk x) (y : Nums) (hy : NumsOk y) (f : Nat → Sm) (hf : ∀ i, SmOk (f i)) (nl : Nat) (hnl : nl ≤ 9223372036854775807) (wy : Int) (hw0 : 0 ≤ wy) (hw1 : wy ≤ 255) :
    AM.Pure Tryz.prog [] 6 [.agg x.cells, .agg y.cells, .rd 8 nl (fun i => smc (f i)), .lit (.int .u8 wy)] (.lit (.bool true)) := by
  obtain ⟨n, ng, Ls, hM⟩ := lmades (Γ := []) x hx f hf
  obtain ⟨n', ng', Ls', hM'⟩ := lmades (Γ := []) y hy f hf
  obtain ⟨q, hq⟩ : ∃ q, q = min nl 20 := ⟨_, rfl⟩
  have m1 := hM.made nl 20 q hq (by omega) (by omega) hnl
  have m2 := hM'.made nl 20 q hq (by omega) (by omega) hnl
  obtain ⟨r1, r2, r3⟩ := hM.rt q (by omega)
  obtain ⟨s1, s2, s3⟩ := hM'.rt q (by omega)
  have hn1 := hM.n1
  obtain ⟨L, eL⟩ : ∃ L, L = Ls q := ⟨_, rfl⟩
  obtain ⟨M, eM⟩ : ∃ L, L = Ls' q := ⟨_, rfl⟩
  rw [← eL] at m1 r1 r2 r3
  rw [← eM] at m2 s1 s2 s3
  have hn4 := hM.n4
  have hg6 := hM.g6
  have hn4' := hM'.n4
  have hg6' := hM'.g6
  have hg1 := hM.g1
  have hst := mstep2 (Γ := []) (by omega) (by omega) r1 s1 (by omega) (by omega)
  have hv := mstep_no (Γ := []) (by omega) r1 (hv_rt r1 hw0) (by omega) hv_later
  have hpa := r1.r0.preOk (by omega) (by omega)
  have hka := r1.r0.kinds
  have ank : L.st.nk = n := r1.r0.nk
  have acp : L.st.cpus = n := r1.r0.cpus
  have ang : L.st.ng = ng := r1.r0.ng.trans r3
  have bng : M.st.ng = ng' := s1.r0.ng.trans s3
  have hb1 := bd_bad (s := L.st) (by rw [ank, acp]) r1.cfg
  have bp := bd_pre hpa (by omega)
  have bk := bd_kinds hka
  have t1 := step_bad (Γ := []) hpa bp hka bk (.inr hb1)
  have t2 := step_bad (Γ := []) bp hpa bk hka (.inl hb1)
  have t3 := step_bad (Γ := []) z_pre hpa z_kinds hka (.inl z_bad)
  have co := copyState L.st hpa.sm (Γ := [])
  have cp := fun k : Nat => copyStateO L.st hpa.sm (by omega) (by omega) k (Γ := [])
  obtain ⟨a, ea⟩ : ∃ a, a = L.st := ⟨_, rfl⟩
  obtain ⟨b, eb⟩ : ∃ b, b = M.st := ⟨_, rfl⟩
  rw [← ea] at m1 hst hv ank acp ang t1 t2 t3 co cp
  rw [← eb] at m2 hst bng
  obtain ⟨NC, eNC⟩ : ∃ C, C = x.cells := ⟨_, rfl⟩
  obtain ⟨ND, eND⟩ : ∃ C, C = y.cells := ⟨_, rfl⟩
  obtain ⟨G, eG⟩ : ∃ G : Nat → List AVal, G = fun i => smc (f i) := ⟨_, rfl⟩
  have hNl : NC.length = 13 := by rw [eNC]; rfl
  have hNt : NC.take 13 = NC := by rw [eNC]; rfl
  have hNo : NC.all AM.one = true := by rw [eNC]; rfl
  have hNc : NC.all clean = true := by rw [eNC]; rfl
  have hNb0 : ∀ (p : Nat → Bool), NC.all (bd0 p) = true := fun p => by rw [eNC]; rfl
  have hNd0 : List.drop 13 NC = [] := by rw [eNC]; rfl
  have hDl : ND.length = 13 := by rw [eND]; rfl
  have hDt : ND.take 13 = ND := by rw [eND]; rfl
  have hDo : ND.all AM.one = true := by rw [eND]; rfl
  have hDc : ND.all clean = true := by rw [eND]; rfl
  have hDb0 : ∀ (p : Nat → Bool), ND.all (bd0 p) = true := fun p => by rw [eND]; rfl
  have hDd0 : List.drop 13 ND = [] := by rw [eND]; rfl
  rw [← eNC, ← eG] at m1
  rw [← eND, ← eG] at m2
  rw [← eNC, ← eND, ← eG]
  obtain ⟨R, eR⟩ : ∃ R, R = (if alB a b a.ng = false then [⟨17, 0, 0⟩] else movesL a b).map Flt.row := ⟨_, rfl⟩
  rw [← eR, rows] at hst
  refine Pure_at Tryz.func6 rfl 213 rfl (Nat.le_of_ble_eq_true rfl) rfl fun k => ?_
  have kp : Kp [0,1,2,3,4,5,8,9,10,11,12,13,14,15,16,17,18,19,20,21,22,23,24,25,26,27,29,47,84,85,86,123,169,175,176,177,180] (fun i => i - k) := kpI
  have uU := zA @hNl (zA @hNt (zA @hNo (zA @hNc (zA @hNb0 (zA @hNd0 (zA @hDl (zA @hDt (zA @hDo (zA @hDc (zA @hDb0 (zA @hDd0 @apN)))))))))))
  refine wl ?_ <;> and_intros <;> first | exact hdT | (apply zM; (repeat intro ht); apply zM; (repeat intro hg); apply zM)
  refine cl [.ret (.lit (.bool true))] ?_ <;> and_intros <;> first | exact hdT | (apply zM; (repeat intro ht); apply zM; (repeat intro hg); apply zM)
  · exact awake
  refine wl ?_ <;> and_intros <;> first | exact hdT | (apply zM; (repeat intro ht); apply zM; (repeat intro hg); apply zM)
  refine cl [.ret (.tup [.agg a.cells, .lit (.bool true)])] ?_ <;> and_intros <;> first | exact hdT | (apply zM; (repeat intro ht); apply zM; (repeat intro hg); apply zM)
  · exact m1
  refine wl ?_ <;> and_intros <;> first | exact hdT | (apply zM; (repeat intro ht); apply zM; (repeat intro hg); apply zM)
  refine cl [.ret (.tup [.agg b.cells, .lit (.bool true)])] ?_ <;> and_intros <;> first | exact hdT | (apply zM; (repeat intro ht); apply zM; (repeat intro hg); apply zM)
  · exact m2
  refine wl ?_ <;> and_intros <;> first | exact hdT | (apply zM; (repeat intro ht); apply zM; (repeat intro hg); apply zM)
  refine cl [.ret (.tup [.rd 3 R.length (fun j => R.getD j []), .lit (.int .i64 0)])] ?_ <;> and_intros <;> first | exact hdT | (apply zM; (repeat intro ht); apply zM; (repeat intro hg); apply zM)
  · exact hst
  refine W_mv (Mv.wk (fr1 := [(14, .lit (.int .i64 0)), (13, .rd 3 R.length (fun j => R.getD j [])), (11, .ptr (k + 3) 0 0), (9, .ptr (k + 2) 0 0), (8, .lit (.bool false)), (3, .lit (.int .u8 wy))]) (k1 := k + 4) (H1 := [(k + 3, ⟨7, true, [b.cells]⟩), (k + 2, ⟨7, true, [a.cells]⟩)]) (wk_low (by omega) (by simp -dsimp -implicitDefEqProofs only [go_sem, hNl, hNt, hNo, hNc, hNb0, hNd0, hDl, hDt, hDo, hDc, hDb0, hDd0, List.append_nil, List.map_append, List.map_cons, List.map_nil, Flt.row, eq_self, ↓reduceIte]) (by simp -dsimp -implicitDefEqProofs only [go_sem, hNl, hNt, hNo, hNc, hNb0, hNd0, hDl, hDt, hDo, hDc, hDb0, hDd0, List.append_nil, List.map_append, List.map_cons, List.map_nil, Flt.row, eq_self, ↓reduceIte]) (by simp -dsimp -implicitDefEqProofs only [go_sem, hNl, hNt, hNo, hNc, hNb0, hNd0, hDl, hDt, hDo, hDc, hDb0, hDd0, List.append_nil, List.map_append, List.map_cons, List.map_nil, Flt.row, eq_self, ↓reduceIte]) (by simp -dsimp -implicitDefEqProofs only [go_sem, hNl, hNt, hNo, hNc, hNb0, hNd0, hDl, hDt, hDo, hDc, hDb0, hDd0, List.append_nil, List.map_append, List.map_cons, List.map_nil, Flt.row, eq_self, ↓reduceIte]))) ?_
  refine M_midO (X := Bool) rfl [0,1,2,3,4,5,8,9,10,11,12,13,14,15,16,17,18,19,20,21,22,23,24,25,26,27,29,47,84,85,86,123,169,175,176,177,180] (k + 4) (fun x => [(15, .lit (.bool x))]) (fun x => [(k + 3, ⟨7, true, [b.cells]⟩), (k + 2, ⟨7, true, [a.cells]⟩)]) (fun x => x = alB a b 0) ?_ ?_
  · have uU := Go.AM.uU
    refine wl ?_ <;> and_intros <;> first | exact hdT | (apply zM; (repeat intro ht); apply zM; (repeat intro hg); apply zM)
    · refine ⟨((a.ng : Int) == (b.ng : Int)), ?_, ?_⟩
      · rw [Bool.eq_iff_iff, beq_iff_eq, alB, decide_eq_true_eq]
        exact ⟨fun h => ⟨by assumption, by assumption, by omega, fun g hg => absurd hg (Nat.not_lt_zero _)⟩, fun h => by omega⟩
      · exact wkF
    · refine ⟨false, ?_, ?_⟩
      · rw [alB, decide_eq_false]
        rintro ⟨h1, h2, _⟩; contradiction
      · exact wkF
    · refine ⟨false, ?_, ?_⟩
      · rw [alB, decide_eq_false]
        rintro ⟨h1, h2, _⟩; contradiction
      · exact wkF
  rintro x rfl
  have uU := Go.AM.uU
  refine rR ?_ <;> first | exact hdT | apply zN
  refine M_midO (X := Unit) rfl [0,1,2,3,4,5,8,9,10,11,12,13,14,15,16,17,18,19,20,21,22,23,24,25,26,27,29,47,84,85,86,123,169,175,176,177,180] (k + 4) (fun _ => [(15, .lit (.bool (alB a b a.ng)))]) (fun _ => [(k + 3, ⟨7, true, [b.cells]⟩), (k + 2, ⟨7, true, [a.cells]⟩)]) (fun _ => True) ?_ ?_
  · refine wl ?_ <;> and_intros <;> first | exact hdT | (apply zM; (repeat intro ht); apply zM; (repeat intro hg); apply zM)
    refine M_forO (X := Nat) rfl [0,1,2,3,4,5,8,9,10,11,12,13,14,15,16,17,18,19,20,21,22,23,24,25,26,27,29,47,84,85,86,123,169,175,176,177,180] (k + 4) (fun i => [(85, .lit (.int .i64 (i : Int))), (15, .lit (.bool (alB a b i)))]) (fun i => [(k + 3, ⟨7, true, [b.cells]⟩), (k + 2, ⟨7, true, [a.cells]⟩)]) (fun i => i ≤ a.ng) (fun i => a.ng - i) 0 ?_ (Nat.zero_le _) ?_
    · refine rR ?_ <;> first | exact hdT | apply zN
      exact wkF
    intro i hi
    refine rR ?_ <;> first | exact hdT | apply zN
    by_cases hig : i < a.ng
    · by_cases hal : alB a b i = true
      · have hal' := hal
        rw [alB, decide_eq_true_eq] at hal'
        obtain ⟨e1, e2, e3, e4⟩ := hal'
        have uU := @hal
        refine wl ?_ <;> and_intros <;> first | exact hdT | (apply zM; (repeat intro ht); apply zM; (repeat intro hg); apply zM)
        refine ⟨i + 1, by omega, by omega, ?_⟩
        have hx : alB a b (i + 1) = (a.par i == b.par i) := by
          rw [Bool.eq_iff_iff, beq_iff_eq, alB, decide_eq_true_eq]
          exact ⟨fun h => h.2.2.2 i (by omega), fun h => ⟨e1, e2, e3, fun g hg => by
            by_cases he : g = i
            · subst he; exact h
            · exact e4 g (by omega)⟩⟩
        rw [hx]
        refine rR ?_ <;> first | exact hdT | apply zN
        exact Mv.wk (wk_low (by omega) (by simp -dsimp -implicitDefEqProofs only [go_sem, hal, List.map_append, List.map_cons, List.map_nil, Flt.row, eq_self, ↓reduceIte]) (by simp -dsimp -implicitDefEqProofs only [go_sem, hal, List.map_append, List.map_cons, List.map_nil, Flt.row, eq_self, ↓reduceIte]) (by simp -dsimp -implicitDefEqProofs only [go_sem, hal, List.map_append, List.map_cons, List.map_nil, Flt.row, eq_self, ↓reduceIte]) (by simp -dsimp -implicitDefEqProofs only [go_sem, hal, List.map_append, List.map_cons, List.map_nil, Flt.row, eq_self, ↓reduceIte]))
      · rw [Bool.not_eq_true] at hal
        have hx : alB a b (i + 1) = false := by
          cases hx : alB a b (i + 1) with
          | false => rfl
          | true =>
            simp only [alB, decide_eq_true_eq, decide_eq_false_iff_not] at hal hx
            exact absurd ⟨hx.1, hx.2.1, hx.2.2.1, fun g hg => hx.2.2.2 g (by omega)⟩ hal
        have uU := @hal
        refine wl ?_ <;> and_intros <;> first | exact hdT | (apply zM; (repeat intro ht); apply zM; (repeat intro hg); apply zM)
        refine ⟨i + 1, by omega, by omega, ?_⟩
        rw [hx]
        refine rR ?_ <;> first | exact hdT | apply zN
        exact Mv.wk (wk_low (by omega) (by simp -dsimp -implicitDefEqProofs only [go_sem, hal, List.map_append, List.map_cons, List.map_nil, Flt.row, eq_self, ↓reduceIte]) (by simp -dsimp -implicitDefEqProofs only [go_sem, hal, List.map_append, List.map_cons, List.map_nil, Flt.row, eq_self, ↓reduceIte]) (by simp -dsimp -implicitDefEqProofs only [go_sem, hal, List.map_append, List.map_cons, List.map_nil, Flt.row, eq_self, ↓reduceIte]) (by simp -dsimp -implicitDefEqProofs only [go_sem, hal, List.map_append, List.map_cons, List.map_nil, Flt.row, eq_self, ↓reduceIte]))
    have hin : i = a.ng := by omega
    subst hin
    refine wl ?_ <;> and_intros <;> first | exact hdT | (apply zM; (repeat intro ht); apply zM; (repeat intro hg); apply zM)
    refine ⟨(), ?_⟩
    exact wkF
  rintro _ _
  refine rR ?_ <;> first | exact hdT | apply zN
  refine M_midO (X := Unit) rfl [0,1,2,3,4,5,8,9,10,11,12,13,14,15,16,17,18,19,20,21,22,23,24,25,26,27,29,47,84,85,86,123,169,175,176,177,180] (k + 4) (fun _ => [(17, .lit (.bool (!alB a b a.ng)))]) (fun _ => [(k + 3, ⟨7, true, [b.cells]⟩), (k + 2, ⟨7, true, [a.cells]⟩)]) (fun _ => True) ?_ ?_
  · cases hal : alB a b a.ng with
    | false =>
      rw [if_pos hal] at eR
      have hR1 : R.length = 1 := by rw [eR]; rfl
      have hz : R.getD 0 [] = [.lit (.int .u8 17), .lit (.int .i64 0), .lit (.int .i64 0)] := by rw [eR]; rfl
      have uU := zA @hz @hR1
      refine wl ?_ <;> and_intros <;> first | exact hdT | (apply zM; (repeat intro ht); apply zM; (repeat intro hg); apply zM)
      refine ⟨(), ?_⟩
      exact Mv.wk (wk_low (by omega) (by simp -dsimp -implicitDefEqProofs only [go_sem, hz, hR1, List.map_append, List.map_cons, List.map_nil, Flt.row, eq_self, ↓reduceIte]) (by simp -dsimp -implicitDefEqProofs only [go_sem, hz, hR1, List.map_append, List.map_cons, List.map_nil, Flt.row, eq_self, ↓reduceIte]) (by simp -dsimp -implicitDefEqProofs only [go_sem, hz, hR1, List.map_append, List.map_cons, List.map_nil, Flt.row, eq_self, ↓reduceIte]) (by simp -dsimp -implicitDefEqProofs only [go_sem, hz, hR1, List.map_append, List.map_cons, List.map_nil, Flt.row, eq_self, ↓reduceIte]))
    | true =>
      rw [if_neg (by rw [hal]; simp)] at eR
      by_cases hR1 : R.length = 1
      · obtain ⟨z, hz, hz2⟩ : ∃ z : Flt, R.getD 0 [] = [.lit (.int .u8 z.r), .lit (.int .i64 z.a), .lit (.int .i64 z.b)] ∧ z ∈ movesL a b := by
          rw [eR, List.length_map] at hR1
          exact ⟨(movesL a b)[0], by simp [eR, List.getD_eq_getElem?_getD, hR1, Flt.row], List.getElem_mem _⟩
        have hz3 : (z.r == 17) = false := by
          rw [beq_eq_false_iff_ne]
          rcases moves_rule hz2 with h | h <;> omega
        have uU := zA @hz (zA @hR1 @hz3)
        refine wl ?_ <;> and_intros <;> first | exact hdT | (apply zM; (repeat intro ht); apply zM; (repeat intro hg); apply zM)
        refine ⟨(), ?_⟩
        exact Mv.wk (wk_low (by omega) (by simp -dsimp -implicitDefEqProofs only [go_sem, hz, hR1, hz3, List.map_append, List.map_cons, List.map_nil, Flt.row, eq_self, ↓reduceIte]) (by simp -dsimp -implicitDefEqProofs only [go_sem, hz, hR1, hz3, List.map_append, List.map_cons, List.map_nil, Flt.row, eq_self, ↓reduceIte]) (by simp -dsimp -implicitDefEqProofs only [go_sem, hz, hR1, hz3, List.map_append, List.map_cons, List.map_nil, Flt.row, eq_self, ↓reduceIte]) (by simp -dsimp -implicitDefEqProofs only [go_sem, hz, hR1, hz3, List.map_append, List.map_cons, List.map_nil, Flt.row, eq_self, ↓reduceIte]))
      · have hR2 : ((R.length : Int) == 1) = false := by
          rw [beq_eq_false_iff_ne]; omega
        have uU := @hR2
        refine wl ?_ <;> and_intros <;> first | exact hdT | (apply zM; (repeat intro ht); apply zM; (repeat intro hg); apply zM)
        refine ⟨(), ?_⟩
        exact Mv.wk (wk_low (by omega) (by simp -dsimp -implicitDefEqProofs only [go_sem, hR2, List.map_append, List.map_cons, List.map_nil, Flt.row, eq_self, ↓reduceIte]) (by simp -dsimp -implicitDefEqProofs only [go_sem, hR2, List.map_append, List.map_cons, List.map_nil, Flt.row, eq_self, ↓reduceIte]) (by simp -dsimp -implicitDefEqProofs only [go_sem, hR2, List.map_append, List.map_cons, List.map_nil, Flt.row, eq_self, ↓reduceIte]) (by simp -dsimp -implicitDefEqProofs only [go_sem, hR2, List.map_append, List.map_cons, List.map_nil, Flt.row, eq_self, ↓reduceIte]))
  rintro _ _
  refine rR ?_ <;> first | exact hdT | apply zN
  have hne : ((!alB a b a.ng) == alB a b a.ng) = false := by cases alB a b a.ng <;> rfl
  have uU := @hne
  refine wl ?_ <;> and_intros <;> first | exact hdT | (apply zM; (repeat intro ht); apply zM; (repeat intro hg); apply zM)
  rotate_left 1
  · exact absurd trivial hg
  refine W_mv (Mv.wk (fr1 := [(9, .ptr (k + 2) 0 0), (8, .lit (.bool false)), (3, .lit (.int .u8 wy))]) (k1 := k + 4) (H1 := [(k + 2, ⟨7, true, [a.cells]⟩)]) (wk_low (by omega) (by simp -dsimp -implicitDefEqProofs only [go_sem, hne, List.map_append, List.map_cons, List.map_nil, Flt.row, eq_self, ↓reduceIte]) (by simp -dsimp -implicitDefEqProofs only [go_sem, hne, List.map_append, List.map_cons, List.map_nil, Flt.row, eq_self, ↓reduceIte]) (by simp -dsimp -implicitDefEqProofs only [go_sem, hne, List.map_append, List.map_cons, List.map_nil, Flt.row, eq_self, ↓reduceIte]) (by simp -dsimp -implicitDefEqProofs only [go_sem, hne, List.map_append, List.map_cons, List.map_nil, Flt.row, eq_self, ↓reduceIte]))) ?_
  have cp1 := cp (k + 4)
  have hgo : ((grR a).all fun row => row.all AM.one) = true := rows_one_of _ _ fun _ => rfl
  have hko : ((klR' a).all fun row => row.all AM.one) = true := rows_one_of _ _ fun _ => rfl
  have hgl : (grR a).length = a.ng := by simp [grR]
  have hkl : (klR' a).length = a.nk := by simp [klR']
  have uU := zA @hgo (zA @hko (zA @hgl @hkl))
  refine cl [.gen (.agg [.lit (.int .i64 a.cpus), .lit (.int .u64 a.credit), .sl (k + 9) 0 a.ng, .sl (k + 10) 0 a.nk, .rd 1 a.nu (uf a), .rd 8 a.nt (tf a), .rd 1 a.ns (ssf a)]) (k + 12) [] [(k + 10, ⟨1, true, klR' a⟩), (k + 9, ⟨2, true, grR a⟩)]] ?_ <;> and_intros <;> first | exact hdT | (apply zM; (repeat intro ht); apply zM; (repeat intro hg); apply zM)
  · exact cp1
  refine wl ?_ <;> and_intros <;> first | exact hdT | (apply zM; (repeat intro ht); apply zM; (repeat intro hg); apply zM)
  refine W_mv (Mv.wk (fr1 := [(18, .ptr (k + 12) 0 0), (9, .ptr (k + 2) 0 0), (8, .lit (.bool false)), (3, .lit (.int .u8 wy))]) (k1 := k + 15) (H1 := [(k + 14, ⟨1, true, klR' a ++ [[.lit (.int .i64 0)]]⟩), (k + 12, ⟨7, false, [[.lit (.int .i64 a.cpus), .lit (.int .u64 a.credit), .sl (k + 9) 0 a.ng, .sl (k + 14) 0 (a.nk + 1), .rd 1 a.nu (uf a), .rd 8 a.nt (tf a), .rd 1 a.ns (ssf a)]]⟩), (k + 9, ⟨2, true, grR a⟩), (k + 2, ⟨7, true, [a.cells]⟩)]) (wk_low (by omega) (by simp -dsimp -implicitDefEqProofs only [go_sem, hgo, hko, hgl, hkl, List.map_append, List.map_cons, List.map_nil, Flt.row, eq_self, ↓reduceIte]) (by simp -dsimp -implicitDefEqProofs only [go_sem, hgo, hko, hgl, hkl, List.map_append, List.map_cons, List.map_nil, Flt.row, eq_self, ↓reduceIte]) (by simp -dsimp -implicitDefEqProofs only [go_sem, hgo, hko, hgl, hkl, List.map_append, List.map_cons, List.map_nil, Flt.row, eq_self, ↓reduceIte]) (by simp -dsimp -implicitDefEqProofs only [go_sem, hgo, hko, hgl, hkl, List.map_append, List.map_cons, List.map_nil, Flt.row, eq_self, ↓reduceIte]))) ?_
  have hgz : ∀ (id : Nat) (B : Blk), (grR a).map (fun row => row.map (frz0 id B)) = grR a := fun _ _ => frz_rows (all_clean fun _ => rfl)
  have vk : VLe (.rd 1 (a.nk + 1) (fun q => (klR' a ++ [[AVal.lit (.int .i64 0)]]).getD q [])) (.rd 1 (a.nk + 1) (kf (bdSt a))) := VLe.rd fun q hq => by
    by_cases h : q < a.nk
    · rw [List.getD_eq_getElem?_getD, List.getElem?_append_left (by rw [hkl]; exact h)]
      simp [klR', h, kf, bdSt]
    · obtain rfl : q = a.nk := by omega
      rw [List.getD_eq_getElem?_getD, List.getElem?_append_right (by omega), hkl, Nat.sub_self]
      simp [kf, bdSt]
  have vg : ∀ w : Nat, VLe (.rd 2 a.ng (fun q => (grR a).getD q [])) (.rd 2 a.ng (gf (bdSt a))) := fun _ => VLe.copy' _ _ _
  refine W_mv (Mv.freeze (k + 14) (by simp -dsimp -implicitDefEqProofs only [go_sem, hgo, hko, hgl, hkl, hgz, eq_self, ↓reduceIte]; rfl) rfl) ?_; simp -dsimp -implicitDefEqProofs only [frzF, frz_app, go_sem, hgo, hko, hgl, hkl, hgz, eq_self, ↓reduceIte]
  refine W_mv (Mv.freeze (k + 9) (by simp -dsimp -implicitDefEqProofs only [go_sem, hgo, hko, hgl, hkl, hgz, eq_self, ↓reduceIte]; rfl) rfl) ?_; simp -dsimp -implicitDefEqProofs only [frzF, frz_app, go_sem, hgo, hko, hgl, hkl, hgz, eq_self, ↓reduceIte]
  obtain ⟨BC, eBC⟩ : ∃ c, c = (bdSt a).cells := ⟨_, rfl⟩
  have hBl : BC.length = 7 := by rw [eBC]; rfl
  have hBt : BC.take 7 = BC := by rw [eBC]; rfl
  have hBo : BC.all AM.one = true := by rw [eBC]; rfl
  have hBc : BC.all clean = true := by rw [eBC]; rfl
  have hBd : List.drop 7 BC = [] := by rw [eBC]; rfl
  have hBb : ∀ (p : Nat → Bool), BC.all (bd0 p) = true := fun p => by rw [eBC]; rfl
  rw [← eBC] at t1 t2
  refine W_mv (Mv.row (k + 12) (l := []) BC (by simp -dsimp -implicitDefEqProofs only [go_sem, hgo, hko, hgl, hkl, hgz, List.map_append, List.map_cons, List.map_nil, Flt.row, eq_self, ↓reduceIte]; rfl) (by rw [eBC]; exact .cons (VLe.refl _) (.cons (VLe.refl _) (.cons (vg 0) (.cons vk (.cons (VLe.refl _) (.cons (VLe.refl _) (.cons (VLe.refl _) .nil))))))) (by simp only [List.nil_append, List.all_cons, hBc, List.all_nil, Bool.and_self])) ?_
  have t4 : AM.Pure Tryz.prog [] 15 [.agg [.lit (.int .i64 0), .lit (.int .u64 0), .lit (.slice none 0 0), .lit (.slice none 0 0), .lit (.slice none 0 0), .lit (.slice none 0 0), .lit (.slice none 0 0)], .agg a.cells] (.tup [.rd 3 0 (fun _ => []), .lit (.int .i64 320)]) :=
    Pure_arg t3 (.cons (VLe.aggs (.cons (VLe.refl _) (.cons (VLe.refl _) (.cons (VLe.nil _ _) (.cons (VLe.nil _ _) (.cons (VLe.nil _ _) (.cons (VLe.nil _ _) (.cons (VLe.nil _ _) .nil)))))))) (.cons (VLe.refl _) .nil))
  have hz0 : IntKind.i64.wrap 0 = 0 := by decide
  have hz1 : (0 : Int) + 0 = 0 := rfl
  have uU := zA @hBl (zA @hBt (zA @hBo (zA @hBc (zA @hBd (zA @hBb (zA @apN (zA @hz0 @hz1)))))))
  refine rR ?_ <;> first | exact hdT | apply zN
  refine cl [.ret (.tup [.rd 3 0 (fun _ => []), .lit (.int .i64 320)])] ?_ <;> and_intros <;> first | exact hdT | (apply zM; (repeat intro ht); apply zM; (repeat intro hg); apply zM)
  · exact t1
  refine wl ?_ <;> and_intros <;> first | exact hdT | (apply zM; (repeat intro ht); apply zM; (repeat intro hg); apply zM)
  refine cl [.ret (.tup [.rd 3 0 (fun _ => []), .lit (.int .i64 320)])] ?_ <;> and_intros <;> first | exact hdT | (apply zM; (repeat intro ht); apply zM; (repeat intro hg); apply zM)
  · exact t2
  refine wl ?_ <;> and_intros <;> first | exact hdT | (apply zM; (repeat intro ht); apply zM; (repeat intro hg); apply zM)
  refine cl [.ret (.tup [.rd 3 0 (fun _ => []), .lit (.int .i64 320)])] ?_ <;> and_intros <;> first | exact hdT | (apply zM; (repeat intro ht); apply zM; (repeat intro hg); apply zM)
  · exact t4
  refine wl ?_ <;> and_intros <;> first | exact hdT | (apply zM; (repeat intro ht); apply zM; (repeat intro hg); apply zM)
  all_goals (first | exact absurd trivial hg | skip)
  refine W_mv (Mv.wk (fr1 := [(9, .ptr (k + 2) 0 0), (8, .lit (.bool false)), (3, .lit (.int .u8 wy))]) (k1 := k + 15) (H1 := [(k + 2, ⟨7, true, [a.cells]⟩)]) (wk_low (by omega) (by simp -dsimp -implicitDefEqProofs only [go_sem, hBl, hBt, hBo, hBc, hBd, hBb, List.append_nil, hz0, hz1, List.map_append, List.map_cons, List.map_nil, Flt.row, eq_self, ↓reduceIte]) (by simp -dsimp -implicitDefEqProofs only [go_sem, hBl, hBt, hBo, hBc, hBd, hBb, List.append_nil, hz0, hz1, List.map_append, List.map_cons, List.map_nil, Flt.row, eq_self, ↓reduceIte]) (by simp -dsimp -implicitDefEqProofs only [go_sem, hBl, hBt, hBo, hBc, hBd, hBb, List.append_nil, hz0, hz1, List.map_append, List.map_cons, List.map_nil, Flt.row, eq_self, ↓reduceIte]) (by simp -dsimp -implicitDefEqProofs only [go_sem, hBl, hBt, hBo, hBc, hBd, hBb, List.append_nil, hz0, hz1, List.map_append, List.map_cons, List.map_nil, Flt.row, eq_self, ↓reduceIte]))) ?_
  have cp2 := cp (k + 15)
  have uU := zA @hgo (zA @hko (zA @hgl (zA @hkl @hgz)))
  refine cl [.gen (.agg [.lit (.int .i64 a.cpus), .lit (.int .u64 a.credit), .sl (k + 20) 0 a.ng, .sl (k + 21) 0 a.nk, .rd 1 a.nu (uf a), .rd 8 a.nt (tf a), .rd 1 a.ns (ssf a)]) (k + 23) [] [(k + 21, ⟨1, true, klR' a⟩), (k + 20, ⟨2, true, grR a⟩)]] ?_ <;> and_intros <;> first | exact hdT | (apply zM; (repeat intro ht); apply zM; (repeat intro hg); apply zM)
  · exact cp2
  refine wl ?_ <;> and_intros <;> first | exact hdT | (apply zM; (repeat intro ht); apply zM; (repeat intro hg); apply zM)
  have e0 : grR a = hvR L wy 0 := by rw [hvR_zero, ea]; rfl
  have agl : L.gl.length = a.ng := by rw [ea]; rfl
  have hwt : ∀ g, g < a.ng → 1 ≤ L.wt g ∧ L.wt g ≤ 65536 := fun g hg => r1.r0.wt g (by omega)
  have hcz : ∀ (i id : Nat) (B : Blk), (hvR L wy i).map (fun row => row.map (frz0 id B)) = hvR L wy i := fun _ _ _ => frz_rows hvR_clean
  have hvo : ∀ i, ((hvR L wy i).all fun row => row.all AM.one) = true := fun i => rows_one_of _ _ fun _ => rfl
  have hkz : ∀ (id : Nat) (B : Blk), (klR' a).map (fun row => row.map (frz0 id B)) = klR' a := fun _ _ => frz_rows (all_clean fun _ => rfl)
  rw [e0]
  refine W_mv (Mv.freeze (k + 21) (by simp -dsimp -implicitDefEqProofs only [go_sem, hkl, hkz, hcz, eq_self, ↓reduceIte]; rfl) rfl) ?_; simp -dsimp -implicitDefEqProofs only [frzF, frz_app, go_sem, hkl, hkz, hcz, eq_self, ↓reduceIte]
  refine M_forO (X := Nat) rfl [0,1,2,3,4,5,8,9,10,11,12,13,14,15,16,17,18,19,20,21,22,23,24,25,26,27,29,47,84,85,86,123,169,175,176,177,180] (k + 24) (fun i => [(176, .lit (.int .i64 (i : Int)))]) (fun i => [(k + 23, ⟨7, false, [[.lit (.int .i64 a.cpus), .lit (.int .u64 a.credit), .sl (k + 20) 0 a.ng, .rd 1 a.nk (fun q => (klR' a).getD q []), .rd 1 a.nu (uf a), .rd 8 a.nt (tf a), .rd 1 a.ns (ssf a)]]⟩), (k + 20, ⟨2, true, hvR L wy i⟩), (k + 2, ⟨7, true, [a.cells]⟩)]) (fun i => i ≤ a.ng) (fun i => a.ng - i) 0 ?_ (Nat.zero_le _) ?_
  · have uU := zA @hvo (zA @hvR_len @agl)
    refine rR ?_ <;> first | exact hdT | apply zN
    exact wkA (hf := by simp -dsimp -implicitDefEqProofs only [go_sem, hvo, hvR_len, agl, List.map_append, List.map_cons, List.map_nil, Flt.row, eq_self, ↓reduceIte]) (hH := by simp -dsimp -implicitDefEqProofs only [go_sem, hvo, hvR_len, agl, List.map_append, List.map_cons, List.map_nil, Flt.row, eq_self, ↓reduceIte]) (h := by simp -dsimp -implicitDefEqProofs only [go_sem, hvo, hvR_len, agl, List.map_append, List.map_cons, List.map_nil, Flt.row, eq_self, ↓reduceIte]) (h' := by simp -dsimp -implicitDefEqProofs only [go_sem, hvo, hvR_len, agl, List.map_append, List.map_cons, List.map_nil, Flt.row, eq_self, ↓reduceIte])
  intro i hi
  have uU := zA @hvo (zA @hvR_len @agl)
  refine rR ?_ <;> first | exact hdT | apply zN
  by_cases hia : i < a.ng
  · have hwi := hwt i hia
    have hget := hvR_get (w := wy) (show i < L.gl.length by omega)
    by_cases hi0 : i = 0
    · subst hi0
      have hone := hvR_one (L := L) (w := wy)
      have uU := zA @hvo (zA @hvR_len (zA @agl @hget))
      refine wl ?_ <;> and_intros <;> first | exact hdT | (apply zM; (repeat intro ht); apply zM; (repeat intro hg); apply zM)
      refine ⟨0 + 1, by omega, by omega, ?_⟩
      rw [Nat.zero_add, hone]
      refine rR ?_ <;> first | exact hdT | apply zN
      exact wkA (hf := by simp -dsimp -implicitDefEqProofs only [go_sem, hvo, hvR_len, agl, hget, List.map_append, List.map_cons, List.map_nil, Flt.row, eq_self, ↓reduceIte]) (hH := by simp -dsimp -implicitDefEqProofs only [go_sem, hvo, hvR_len, agl, hget, List.map_append, List.map_cons, List.map_nil, Flt.row, eq_self, ↓reduceIte]) (h := by simp -dsimp -implicitDefEqProofs only [go_sem, hvo, hvR_len, agl, hget, List.map_append, List.map_cons, List.map_nil, Flt.row, eq_self, ↓reduceIte]) (h' := by simp -dsimp -implicitDefEqProofs only [go_sem, hvo, hvR_len, agl, hget, List.map_append, List.map_cons, List.map_nil, Flt.row, eq_self, ↓reduceIte])
    · have hset := hvR_set (L := L) (w := wy) (show 0 < i by omega)
      have hi3 : (0 : Int) < (i : Int) := by omega
      have uU := zA @hvo (zA @hvR_len (zA @agl @hget))
      refine wl ?_ <;> and_intros <;> first | exact hdT | (apply zM; (repeat intro ht); apply zM; (repeat intro hg); apply zM)
      refine ⟨i + 1, by omega, by omega, ?_⟩
      rw [show (if 65536 < L.wt i + 1 + wy then 65536 else L.wt i + 1 + wy) = hvW (L.wt i) wy from rfl, hset]
      refine rR ?_ <;> first | exact hdT | apply zN
      exact wkA (hf := by simp -dsimp -implicitDefEqProofs only [go_sem, hvo, hvR_len, agl, hget, List.map_append, List.map_cons, List.map_nil, Flt.row, eq_self, ↓reduceIte]) (hH := by simp -dsimp -implicitDefEqProofs only [go_sem, hvo, hvR_len, agl, hget, List.map_append, List.map_cons, List.map_nil, Flt.row, eq_self, ↓reduceIte]) (h := by simp -dsimp -implicitDefEqProofs only [go_sem, hvo, hvR_len, agl, hget, List.map_append, List.map_cons, List.map_nil, Flt.row, eq_self, ↓reduceIte]) (h' := by simp -dsimp -implicitDefEqProofs only [go_sem, hvo, hvR_len, agl, hget, List.map_append, List.map_cons, List.map_nil, Flt.row, eq_self, ↓reduceIte])
  have hia : i = a.ng := by omega
  subst hia
  have uU := zA @hvo (zA @hvR_len (zA @agl @hcz))
  refine wl ?_ <;> and_intros <;> first | exact hdT | (apply zM; (repeat intro ht); apply zM; (repeat intro hg); apply zM)
  refine W_mv (Mv.freeze (k + 20) (by simp -dsimp -implicitDefEqProofs only [go_sem, hvo, hvR_len, agl, hcz, eq_self, ↓reduceIte]; rfl) rfl) ?_; simp -dsimp -implicitDefEqProofs only [frzF, frz_app, go_sem, hvo, hvR_len, agl, hcz, eq_self, ↓reduceIte]
  obtain ⟨HC, eHC⟩ : ∃ c, c = (hvL L wy).st.cells := ⟨_, rfl⟩
  have hHl : HC.length = 7 := by rw [eHC]; rfl
  have hHt : HC.take 7 = HC := by rw [eHC]; rfl
  have hHo : HC.all AM.one = true := by rw [eHC]; rfl
  have hHc : HC.all clean = true := by rw [eHC]; rfl
  have hHd : List.drop 7 HC = [] := by rw [eHC]; rfl
  have hHb : ∀ (p : Nat → Bool), HC.all (bd0 p) = true := fun p => by rw [eHC]; rfl
  have hng : (hvL L wy).st.ng = a.ng := hvG_len.trans agl
  have vhg : VLe (.rd 2 a.ng (fun q => (hvR L wy a.ng).getD q [])) (.rd 2 (hvL L wy).st.ng (gf (hvL L wy).st)) := by
    rw [hng, ← agl]
    exact VLe.rd fun q hq => hvR_last hq
  have vhk : VLe (.rd 1 a.nk (fun q => (klR' a).getD q [])) (.rd 1 (hvL L wy).st.nk (kf (hvL L wy).st)) := by
    have : (hvL L wy).st.nk = a.nk ∧ kf (hvL L wy).st = kf a := by rw [ea]; exact ⟨rfl, rfl⟩
    rw [this.1, this.2]
    exact VLe.copy' _ _ _
  have vhr : AVal.rd 1 a.nu (uf a) = .rd 1 (hvL L wy).st.nu (uf (hvL L wy).st) ∧ AVal.rd 8 a.nt (tf a) = .rd 8 (hvL L wy).st.nt (tf (hvL L wy).st) ∧ AVal.rd 1 a.ns (ssf a) = .rd 1 (hvL L wy).st.ns (ssf (hvL L wy).st) ∧ a.cpus = (hvL L wy).st.cpus ∧ a.credit = (hvL L wy).st.credit := by rw [ea]; exact ⟨rfl, rfl, rfl, rfl, rfl⟩
  rw [← eHC] at hv
  refine W_mv (Mv.row (k + 23) (l := []) HC (by simp -dsimp -implicitDefEqProofs only [go_sem, hvo, hvR_len, agl, hcz, List.map_append, List.map_cons, List.map_nil, Flt.row, eq_self, ↓reduceIte]; rfl) (by rw [eHC, St.cells, ← vhr.1, ← vhr.2.1, ← vhr.2.2.1, ← vhr.2.2.2.1, ← vhr.2.2.2.2]; exact .cons (VLe.refl _) (.cons (VLe.refl _) (.cons vhg (.cons vhk (.cons (VLe.refl _) (.cons (VLe.refl _) (.cons (VLe.refl _) .nil))))))) (by simp only [List.nil_append, List.all_cons, hHc, List.all_nil, Bool.and_self])) ?_
  have uU := zA @hHl (zA @hHt (zA @hHo (zA @hHc (zA @hHd (zA @hHb @apN)))))
  refine rR ?_ <;> first | exact hdT | apply zN
  refine cl [.ret (.tup [.rd 3 0 (fun _ => []), .lit (.int .i64 0)])] ?_ <;> and_intros <;> first | exact hdT | (apply zM; (repeat intro ht); apply zM; (repeat intro hg); apply zM)
  · exact hv
  refine wl ?_ <;> and_intros <;> first | exact hdT | (apply zM; (repeat intro ht); apply zM; (repeat intro hg); apply zM)
  trace_state
  all_goals (refine C_ret rfl ⟨_, rfl, VLe.refl _⟩)
end Go.Proofs.T
end
section
namespace Go.Proofs.T
open Go Go.AM Go.Proofs Go.ChangeMaps Go.ChangeShapes Go.WideShapes Go.ChangeAt Go.WideMaps Go.WideElems Go.RowKit Go.Proofs.YtkiadljldlppbaaGreatDoor
set_option maxRecDepth 100000
def zeroNums : Value := .agg #[.int .u8 0, .int .u8 0, .int .u32 0, .int .u8 0, .int .u8 0, .int .u8 0, .int .u8 0, .int .u8 0, .int .u16 0, .int .u16 0, .int .u16 0, .int .u16 0, .int .u16 0]
theorem vs_four {W : World} {G : Nat → Prop} {ρ : Names} {A : Allow} {a b c d : AVal} {x y z u : Value} (h : V W G ρ A a x) (h' : V W G ρ A b y) (h'' : V W G ρ A c z) (h3 : V W G ρ A d u) : Vs W G ρ A [a, b, c, d] #[x, y, z, u] :=
  ⟨rfl, fun j w hj => by
    match j with
    | 0 => cases hj; exact h
    | 1 => cases hj; exact h'
    | 2 => cases hj; exact h''
    | 3 => cases hj; exact h3
    | j + 4 => simp at hj⟩
theorem liftedO (os : Os) (started : os.Started) (H : Type) (enc : TypeId × Value → H) :
    ReturnsInHanded {} Tryz.checked os 6 .any (fun w args => (Rows.auditOtherSpec.pre enc Tryz.prog Tryz.f6 [] false w args ∧ laidMetH Tryz.prog Rows.auditOtherRow.laid w) ∧ sizedMet enc Tryz.prog Tryz.f6 (OpenSpec.ofChange Rows.auditOtherSpec) false w args)
      (Rows.auditOtherSpec.post enc Tryz.prog Tryz.f6 false true false false) := by
  refine returnsInHanded_of_change_and (C := Tryz.checked) (X := fun w _ => laidMetH Tryz.prog Rows.auditOtherRow.laid w) (fun _ _ _ hh h => h.of_heap hh) ownK started (by kernel_rfl) Tryz.func6
    (ChangeSpec.witness_shaped (enc := enc) (C := Tryz.checked) (os := os) (X := fun w _ => laidMetH Tryz.prog Rows.auditOtherRow.laid w) false (World.laidAll Tryz.prog os Rows.auditOtherRow.laid) #[zeroNums, zeroNums, .slice none 0 0, .int .u8 0] 8 (World.laidAll_os _ _ _) (World.shaped_of_ZipB (by kernel_rfl) (by kernel_rfl)) (by kernel_rfl) (by kernel_rfl) (by kernel_rfl)
      (by rw [MakeChecks.laidMetH_plain _ _ _ (by kernel_rfl)]; exact laidMet_laidAll _ (by kernel_rfl) (by kernel_rfl))) ?_
  intro W base args ds gs before hval0 hW _ _ hL _
  have hval : ∀ (j : Nat) t v, Tryz.f6.params[j]? = some t → args[j]? = some v → Value.okWide Tryz.prog W .any base t v := hval0
  have hW' := hW
  obtain ⟨p, q, hA0, hV, rfl, hfz, hnd⟩ := hW
  have hA : DataW.TrodAll enc Tryz.prog W 0 (fun _ => true) true Tryz.f6.params.toList args.toList ds p := hA0
  rw [Tryz.params6] at hA hval
  obtain ⟨v0, v1, v2, v3, d0, d1, d2, d3, p0, p1, p2, p3, rfl, rfl, rfl, h0, h1, h2, h3⟩ := trodAll_four hA
  obtain ⟨rfl, rfl⟩ := trodVars_none hV
  clear hA0 hval0
  obtain ⟨x, hx, hv0⟩ := nums_of (hval 0 27 v0 rfl rfl) h0
  obtain ⟨y, hy, hv1⟩ := nums_of (hval 1 27 v1 rfl rfl) h1
  obtain ⟨n, f, hn, hf, hv2⟩ := smalls_of (hval 2 28 v2 rfl rfl) h2
  obtain ⟨z, rfl, rfl, rfl, hz⟩ := open_int Tryz.underlying5 (hval 3 5 v3 rfl rfl) h3
  have hz' := u8_rng hz
  refine (row_call (auditOther x hx y hy f hf n hn z hz'.1 hz'.2) (vs_four hv0 hv1 hv2 (.lit (v := .int .u8 z)))).mono fun e W' ⟨he, hb⟩ => ?_
  subst he
  have hlt0 : ∀ x ∈ p0, x.block < W.heap.size := fun x hx => hW'.lt x (by simp [hx])
  have hlt1 : ∀ x ∈ p1, x.block < W.heap.size := fun x hx => hW'.lt x (by simp [hx])
  have hlt2 : ∀ x ∈ p2, x.block < W.heap.size := fun x hx => hW'.lt x (by simp [hx])
  refine ⟨_, rfl, _, _, _, [], p0 ++ (p1 ++ (p2 ++ [])), [], hW', ?_, ?_, rfl, keptBut_below hb _, fun h => by cases h⟩
  · exact trodAll_mk1 (shut_bool Tryz.underlying4 true)
  · exact trodAll_mk4 (Below.trod laidOut (by kernel_rfl) (of_decide_eq_true (by kernel_rfl)) h0 hb hlt0) (Below.trod laidOut (by kernel_rfl) (of_decide_eq_true (by kernel_rfl)) h1 hb hlt1) (Below.trod laidOut (by kernel_rfl) (of_decide_eq_true (by kernel_rfl)) h2 hb hlt2) (shut_int Tryz.underlying5 hz)
theorem auditOther_holds : Rows.AuditOtherSaid :=
  OpenClaim.holds_of_wide 6 Tryz.f6 rfl rfl rfl rfl rfl rfl rfl ⟨rfl, rfl, rfl, rfl, rfl⟩ rfl rfl rfl rfl rfl (by kernel_rfl) Tryz.func6 (by kernel_rfl)
    (of_decide_eq_true (by kernel_rfl)) (by unfold Func.isWrapper; first | (rw [if_pos (by decide +kernel)]; kernel_rfl) | (rw [if_neg (by decide +kernel)]; exact ⟨rfl, rfl⟩))
    (fun os started H enc _ => liftedO os started H enc)
end Go.Proofs.T
end
