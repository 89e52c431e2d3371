import Derived.Test.YtkiadljldlppbaaGreatDoorZAL
import Derived.Laws.Bits64
set_option linter.unusedVariables false
set_option linter.unusedSimpArgs false
section
namespace Go.Proofs.T
open Go Go.AM Go.Proofs
set_option maxRecDepth 20000
variable {Γ : List (Nat × List AVal)}
def zI : List AVal := [.lit (.int .i64 0)]
def zS : List AVal := [.lit (.int .u64 0), .lit (.int .u32 0), .lit (.int .u64 0)]
def cpO (b ns n : Nat) (i : Nat) : List (List AVal) := (List.range ns).map fun j => if j < i then [.sl (b + j) 0 n] else [.lit (.slice none 0 0)]
theorem cpO_len (b ns n i : Nat) : (cpO b ns n i).length = ns := by simp [cpO]
theorem cpO_zero (b ns n : Nat) : cpO b ns n 0 = List.replicate ns [.lit (.slice none 0 0)] := List.ext_getElem? fun j => by
  by_cases h : j < ns
  · simp [cpO, h]
  · rw [List.getElem?_eq_none (by rw [cpO_len]; omega), List.getElem?_eq_none (by simp; omega)]
theorem cpO_set (b ns n i : Nat) (h : i < ns) : (cpO b ns n i).set i [.sl (b + i) 0 n] = cpO b ns n (i + 1) := List.ext_getElem? fun j => by
  rw [List.getElem?_set]
  by_cases e : i = j
  · subst e
    rw [if_pos rfl, if_pos (by rw [cpO_len]; exact h)]
    simp [cpO, h]
  · rw [if_neg e]
    by_cases hj : j < ns
    · simp only [cpO, List.getElem?_map, List.getElem?_range hj, Option.map_some]
      by_cases h1 : j < i
      · rw [if_pos h1, if_pos (by omega)]
      · rw [if_neg h1, if_neg (by omega)]
    · rw [List.getElem?_eq_none (by rw [cpO_len]; omega), List.getElem?_eq_none (by rw [cpO_len]; omega)]
theorem cpO_last (b ns n : Nat) : cpO b ns n ns = (List.range ns).map fun j => [.sl (b + j) 0 n] := List.map_congr_left fun j hj => if_pos (List.mem_range.1 hj)
attribute [go_sem] cpO_len zI zS
theorem famIn_succ {H : Heap} {f s n : Nat} {R : Nat → List (List AVal)} : famIn H f s (n + 1) R ↔ famIn H f s n R ∧ AM.look H (f + n) = some ⟨s, true, R n⟩ := by
  constructor
  · exact fun h => ⟨fun g hg => h g (by omega), h n (by omega)⟩
  · rintro ⟨h1, h2⟩ g hg
    by_cases e : g = n
    · subst e; exact h2
    · exact h1 g (by omega)
theorem Mv.raise {kb k k2 : Nat} {fr : Fr} {H : Heap} (h : k ≤ k2) : Mv kb k fr H k2 fr H := fun hk => ⟨by omega, fun Γ nt A0 w G ρ a hA hi => by
  have hal : ∀ i, alw A0 kb k i → alw A0 kb k2 i := fun i h' => h'.imp id fun h'' => ⟨h''.1, by omega⟩
  refine ⟨G, ρ, ⟨hi.rel.allow (ofHeap H (alw A0 kb k2)) (fun id hn => ?_) (fun id B A' hs => ?_), hi.size, hi.defers, fun t v hv => (hi.frm t v hv).mono (fun _ h => h) (fun _ _ => rfl) (fun _ _ => rfl) hal (fun _ _ => .inr rfl)⟩, Step.refl _ _ _ _⟩
  · simp only [ofHeap, Option.map_eq_none_iff] at hn ⊢; exact hn
  · simp only [ofHeap, Option.map_eq_some_iff] at hs
    obtain ⟨B1, h1, h2⟩ := hs
    cases h2
    exact ⟨alw A0 kb k, by simp [ofHeap, h1], hal⟩⟩
theorem famIn_zero {H : Heap} {f s : Nat} {R : Nat → List (List AVal)} : famIn H f s 0 R = True := eq_true fun g hg => absurd hg (Nat.not_lt_zero _)
attribute [go_sem] famIn_zero
theorem famIn_succ' {H : Heap} {f s n : Nat} {R : Nat → List (List AVal)} : famIn H f s (n + 1) R = (famIn H f s n R ∧ AM.look H (f + n) = some ⟨s, true, R n⟩) := propext famIn_succ
theorem cpO_sw {b ns n i x : Nat} (h : b + ns ≤ x) (hi : i < ns) : ((cpO b ns n i).set i [.sl x 0 n]).map (fun row => row.map (sw0 x (b + i))) = cpO b ns n (i + 1) := List.ext_getElem? fun j => by
  rw [List.getElem?_map, List.getElem?_set]
  by_cases e : i = j
  · subst e
    rw [if_pos rfl, if_pos (by rw [cpO_len]; exact hi)]
    simp only [cpO, List.getElem?_map, List.getElem?_range hi, Option.map_some, List.map_cons, List.map_nil, sw0, sw]
    rw [if_pos trivial, if_pos (by omega)]
  · rw [if_neg e]
    by_cases hj : j < ns
    · simp only [cpO, List.getElem?_map, List.getElem?_range hj, Option.map_some]
      by_cases h1 : j < i
      · rw [if_pos h1, if_pos (by omega)]
        simp only [List.map_cons, List.map_nil, sw0, sw]
        rw [if_neg (by omega), if_neg (by omega)]
      · rw [if_neg h1, if_neg (by omega)]
        rfl
    · rw [List.getElem?_eq_none (by rw [cpO_len]; omega), List.getElem?_eq_none (by rw [cpO_len]; omega)]
      rfl
theorem cpO_all {b ns n i kk : Nat} (h : b + ns ≤ kk) : ((cpO b ns n i).all fun row => row.all (bd0 (ltB kk))) = true := by
  rw [List.all_eq_true]
  intro row hr
  simp only [cpO, List.mem_map, List.mem_range] at hr
  obtain ⟨g, hg, rfl⟩ := hr
  split
  · simp [bd0, ltB]; omega
  · rfl
attribute [go_sem] cpO_all famIn_succ'
set_option maxHeartbeats 8000000 in
theorem copiedO (cpus credit : Int) (ng n ns : Nat) (gF : Nat → List AVal) (hgone : (((List.range ng).map gF).all fun row => row.all AM.one) = true) (h1 : 0 < ng) (h2 : ng ≤ 1000) (h3 : 0 < n) (h4 : n ≤ 1000) (h5 : 0 < ns) (h6 : ns ≤ 1000) (k : Nat) :
    Tr Tryz.prog Γ 30 k [.agg [.lit (.int .i64 cpus), .lit (.int .u64 credit), .rd 2 ng gF, .rd 1 n (fun _ => zI), .rd 1 n (fun _ => zI), .lit (.slice none 0 0), .rd 1 ns (fun _ => [.rd 3 n (fun _ => zS)])]] []
      (fun k1 r1 H1 => k1 = k + (16 + ns) ∧ r1 = .agg [.lit (.int .i64 cpus), .lit (.int .u64 credit), .sl (k + 10) 0 ng, .sl (k + 11) 0 n, .sl (k + 12) 0 n, .lit (.slice none 0 0), .sl (k + 14) 0 ns] ∧
        H1 = (k + 10, ⟨2, true, (List.range ng).map gF⟩) :: (k + 11, ⟨1, true, (List.range n).map fun _ => zI⟩) :: (k + 12, ⟨1, true, (List.range n).map fun _ => zI⟩) :: (k + 14, ⟨1, false, cpO (k + 15) ns n ns⟩) :: fam (k + 15) 3 ns (fun _ => (List.range n).map fun _ => zS)) := by
  obtain ⟨kx, hkx⟩ : ∃ x, x = k + (16 + ns) := ⟨_, rfl⟩
  rw [← hkx]
  have cG := ownG ng gF (k + 2) h1 (by omega) hgone (Γ := Γ)
  have zIone : (((List.range n).map fun _ => zI).all fun row => row.all AM.one) = true := rows_one_of _ _ fun _ => rfl
  have zSone : (((List.range n).map fun _ => zS).all fun row => row.all AM.one) = true := rows_one_of _ _ fun _ => rfl
  have cK := ownI n (fun _ => zI) (k + 4) h3 (by omega) zIone (Γ := Γ)
  have cU := ownI n (fun _ => zI) (k + 6) h3 (by omega) zIone (Γ := Γ)
  obtain ⟨GR, eG⟩ : ∃ GR, GR = (List.range ng).map gF := ⟨_, rfl⟩
  obtain ⟨KR, eK⟩ : ∃ KR, KR = (List.range n).map fun _ => zI := ⟨_, rfl⟩
  obtain ⟨SR, eS⟩ : ∃ SR, SR = (List.range n).map fun _ => zS := ⟨_, rfl⟩
  rw [← eG] at cG ⊢
  rw [← eK] at cK cU ⊢
  rw [← eS]
  obtain ⟨RH, eRH⟩ : ∃ x : Heap, x = (k + 10, ⟨2, true, GR⟩) :: (k + 11, ⟨1, true, KR⟩) :: (k + 12, ⟨1, true, KR⟩) :: (k + 14, ⟨1, false, cpO (k + 15) ns n ns⟩) :: fam (k + 15) 3 ns (fun _ => SR) := ⟨_, rfl⟩
  obtain ⟨RV, eRV⟩ : ∃ x : AVal, x = .agg [.lit (.int .i64 cpus), .lit (.int .u64 credit), .sl (k + 10) 0 ng, .sl (k + 11) 0 n, .sl (k + 12) 0 n, .lit (.slice none 0 0), .sl (k + 14) 0 ns] := ⟨_, rfl⟩
  refine Tr.mono (Tr_in (kk := kx) (V := RV) (RH := RH) (by omega) ?_ ?_ ?_) (fun _ _ _ h => ⟨h.1, h.2.1.trans eRV, h.2.2.trans eRH⟩)
  · rw [eRV]
    simp -dsimp -implicitDefEqProofs (disch := omega) only [go_sem, nq0, nq5, ltB_iff, List.map_append, eq_self, ↓reduceIte]
    try (simp only [Bool.and_eq_true, decide_eq_true_eq]; omega)
  · have hf := bdH_fam (s := 3) (R := fun _ : Nat => SR) (show k + 15 + ns ≤ kx by omega)
    have ho : ((cpO (k + 15) ns n ns).all fun row => row.all (bd0 (ltB kx))) = true := by
      rw [cpO_last, List.all_eq_true]
      intro row hr
      simp only [List.mem_map, List.mem_range] at hr
      obtain ⟨g, hg, rfl⟩ := hr
      simp [bd0, ltB]; omega
    rw [eRH]
    simp only [bdH] at hf
    simp only [bdH, List.all_cons, hf, ho, ltB, Bool.true_or, Bool.false_or, Bool.and_true, Bool.and_eq_true, decide_eq_true_eq]
    repeat' (first | (refine And.intro ?_ ?_) | omega | trivial)
  refine Tr_at Tryz.func30 rfl 45 rfl (Nat.le_of_ble_eq_true rfl) ?_
  have kp : Kp [0,1,2,3,4,5,29,30,31,32] (fun i => i - k) := kpI
  refine wlL ?_; refine zq1 ⟨⟨⟨?_⟩⟩⟩
  refine clL [.gen (.sl (k + 3) 0 ng) (k + 4) [] [(k + 3, ⟨2, true, GR⟩)]] ?_; refine zq1 ⟨⟨⟨?_⟩⟩⟩
  refine wlL ?_; refine zq1 ⟨⟨⟨?_⟩⟩⟩
  have kp : Kp [0,1,2,3,4,5,29,30,31,32] (fun i => if k ≤ i then i - k + 4 else 0) := kpI
  refine dlL [.gen (.sl (k + 5) 0 n) (k + 6) [] [(k + 5, ⟨1, true, KR⟩)], .gen (.sl (k + 7) 0 n) (k + 8) [] [(k + 7, ⟨1, true, KR⟩)], .ret (.lit (.slice none 0 0))] ?_; refine zq4 ⟨⟨⟨?_⟩⟩⟩ ⟨⟨⟨?_⟩⟩⟩ ⟨⟨⟨?_⟩⟩⟩ ⟨⟨⟨?_⟩⟩⟩
  · exact cK
  · exact cU
  · exact ownN
  refine wlL ?_; refine zq1 ⟨⟨⟨?_⟩⟩⟩
  refine M_forO (X := Nat) rfl [0,1,2,3,4,5,29,30,31,32] kx (fun i => [(31, .lit (.int .i64 (i : Int))), (3, .sl (k + 14) 0 ns)]) (fun i => (k, ⟨7, false, [[.lit (.int .i64 cpus), .lit (.int .u64 credit), .sl (k + 10) 0 ng, .sl (k + 11) 0 n, .sl (k + 12) 0 n, .lit (.slice none 0 0), .rd 1 ns (fun _ => [.rd 3 n (fun _ => zS)])]]⟩) :: (k + 1, ⟨7, true, [[.lit (.int .i64 0), .lit (.int .u64 0), .lit (.slice none 0 0), .lit (.slice none 0 0), .lit (.slice none 0 0), .lit (.slice none 0 0), .lit (.slice none 0 0)]]⟩) :: (k + 10, ⟨2, true, GR⟩) :: (k + 11, ⟨1, true, KR⟩) :: (k + 12, ⟨1, true, KR⟩) :: (k + 14, ⟨1, decide (i = 0), cpO (k + 15) ns n i⟩) :: fam (k + 15) 3 i (fun _ => SR)) (fun i => i ≤ ns) (fun i => ns - i) 0 ?_ (Nat.zero_le _) ?_
  · rw [cpO_zero]
    refine Mv.trans (Mv.raise (k2 := kx) (by omega)) ?_
    refine Mv.trans (Mv.swap (k + 3) (k + 10) ⟨by omega, by omega⟩ ⟨by omega, by omega⟩) ?_
    refine Mv.trans (Mv.swap (k + 5) (k + 11) ⟨by omega, by omega⟩ ⟨by omega, by omega⟩) ?_
    refine Mv.trans (Mv.swap (k + 7) (k + 12) ⟨by omega, by omega⟩ ⟨by omega, by omega⟩) ?_
    refine Mv.trans (Mv.swap (k + 8) (k + 14) ⟨by omega, by omega⟩ ⟨by omega, by omega⟩) ?_
    refine rRL ?_; apply zN
    exact wkD
  intro i hi
  refine rRL ?_; apply zN
  by_cases hi2 : i < ns
  · have cS := ownS n (fun _ => zS) kx h3 (by omega) zSone (Γ := Γ)
    rw [← eS] at cS
    have hset := cpO_set (k + 15) ns n i hi2
    have hcg : (cpO (k + 15) ns n i)[i]? = some [.lit (.slice none 0 0)] := by simp [cpO, hi2]
    have uU := @hcg
    refine wlL ?_; refine zq1 ⟨fun ht => ⟨⟨?_⟩⟩⟩
    refine clL [.gen (.sl (kx + 1) 0 n) (kx + 2) [] [(kx + 1, ⟨3, true, SR⟩)]] ?_; refine zq2 ⟨⟨⟨?_⟩⟩⟩ ⟨⟨⟨?_⟩⟩⟩
    · exact cS
    refine wlL ?_; refine zq1 ⟨⟨⟨?_⟩⟩⟩
    refine ⟨i + 1, by omega, by omega, ?_⟩
    have hsw := cpO_sw (b := k + 15) (n := n) (x := kx + 1) (by omega : k + 15 + ns ≤ kx + 1) hi2
    rw [Nat.add_assoc k 15 i] at hsw
    refine Mv.trans (Mv.swap (kx + 1) (k + (15 + i)) ⟨by omega, by omega⟩ ⟨by omega, by omega⟩) ?_
    have uU := zA @hsw @famIn_succ'
    refine rRL ?_; apply zN
    exact wkD
  · have hil : i = ns := by omega
    subst hil
    refine wlL ?_; refine zq1 ⟨fun ht => ⟨⟨?_⟩⟩⟩
    have uU := Go.AM.uU; refine cRD ?_; apply zN
    refine ⟨?_, ?_⟩
    · rw [eRV]
    · rw [eRH]
      exact rRL hdT
end Go.Proofs.T
end
section
namespace Go.Proofs.T
open Go Go.AM Go.Proofs
set_option maxRecDepth 20000
variable {Γ : List (Nat × List AVal)}
def LSt.setW (L : LSt) (g : Nat) (w : Int) : LSt := { L with gl := L.gl.set g (L.par g, w) }
theorem setW_par {L : LSt} {g h : Nat} {w : Int} : (L.setW g w).par h = L.par h := by
  unfold LSt.setW LSt.par
  simp only [List.getD_eq_getElem?_getD, List.getElem?_set]
  by_cases e : g = h
  · subst e
    by_cases hl : g < L.gl.length
    · simp [hl]
    · simp [hl]
  · rw [if_neg e]
theorem setW_wt {L : LSt} {g h : Nat} {w : Int} (hg : g < L.gl.length) : (L.setW g w).wt h = if h = g then w else L.wt h := by
  unfold LSt.setW LSt.wt
  simp only [List.getD_eq_getElem?_getD, List.getElem?_set]
  by_cases e : h = g
  · subst e; simp [hg]
  · rw [if_neg (Ne.symm e), if_neg e]
theorem Rt0.setW {L : LSt} {n g : Nat} {w : Int} (h : Rt0 L n) (hg : g < L.sl.length) (hg0 : 0 < g) (hw : 1 ≤ w ∧ w ≤ 65536) (hr : ∀ c, c < n → (L.sp g c).r = 0) : Rt0 (L.setW g w) n := by
  have hgl : g < L.gl.length := by rw [h.ng]; exact hg
  refine ⟨h.n1, h.n64, h.cpus, h.cr0, h.cr, by show (L.gl.set g _).length = _; rw [List.length_set]; exact h.ng, h.ns1, h.ns, h.nk, h.nu, h.rows, h.nt, fun j h1 h2 => by rw [setW_par]; exact h.par j h1 h2, by rw [setW_par]; exact h.par0, fun j hj => ?_, h.clk, fun j c hj hc => ?_, h.root, fun i hi => by have t := h.tk i hi; exact ⟨t.id1, t.id2, t.g0, t.g1, t.c0, t.c1, t.e, t.v0, t.v1, t.r0, t.m0, t.m1, t.m2, t.m3⟩, h.sorted, h.cur⟩
  · rw [setW_wt hgl]
    split
    · exact hw
    · exact h.wt j hj
  · rw [setW_wt hgl]
    obtain ⟨a1, a2, a3, a4, a5, a6⟩ := h.sp j c hj hc
    split
    · rename_i e
      subst e
      have := hr c hc
      refine ⟨?_, a2, a3, a4, a5, a6⟩
      show ent (L.sp j c).v (L.sp j c).r w = true
      rw [this]
      simp [ent]; omega
    · exact ⟨a1, a2, a3, a4, a5, a6⟩
def rw1 (L : LSt) (g c : Nat) : LSt := L.setS g c { L.sp g c with r := 0 }
def rwN (L : LSt) (g : Nat) : Nat → LSt
  | 0 => L
  | j + 1 => rw1 (rwN L g j) g j
theorem rwN_ok {L : LSt} {n g : Nat} (h : Rt0 L n) (hg : g < L.sl.length) : ∀ {j : Nat}, j ≤ n → Rt0 (rwN L g j) n ∧ Fwd L (rwN L g j) ∧ (rwN L g j).tl = L.tl ∧ ∀ c, c < j → ((rwN L g j).sp g c).r = 0
  | 0, _ => ⟨h, Fwd.refl L, rfl, fun c hc => absurd hc (Nat.not_lt_zero _)⟩
  | j + 1, hj => by
    obtain ⟨h1, h2, h3, h4⟩ := rwN_ok h hg (j := j) (by omega)
    have hg' : g < (rwN L g j).sl.length := by rw [h2.ns]; exact hg
    have hr := h1.rows g hg'
    have hjr : j < ((rwN L g j).sl.getD g []).length := by omega
    obtain ⟨a1, a2, a3, a4, a5, a6⟩ := h1.sp g j hg' (by omega)
    refine ⟨h1.setS hg' (by omega) ⟨?_, a2, a3, Int.le_refl _, a5, a6⟩ (fun e => by subst e; exact ⟨(h1.root j (by omega)).1, rfl⟩), h2.trans (Fwd.setS hg' hjr (Int.le_refl _)) (.inl rfl), h3, fun c hc => ?_⟩
    · simp only [ent, decide_eq_true_eq] at a1
      show ent _ 0 _ = true
      simp only [ent, decide_eq_true_eq]
      exact ⟨a1.1, a1.2.1, by omega, .inr trivial⟩
    · show ((rw1 (rwN L g j) g j).sp g c).r = 0
      rw [rw1, setS_sp hg' hjr]
      split
      · rfl
      · rename_i e
        exact h4 c (by have : c ≠ j := fun e2 => e ⟨rfl, e2⟩; omega)
theorem MH_setW {m tk g : Nat} {L : LSt} {w : Int} : MH m tk (L.setW g w) = (m, ⟨8, false, [mrow m tk L]⟩) :: (m + 1, ⟨2, true, (glR L).set g [.lit (.int .i64 (L.par g)), .lit (.int .i64 w)]⟩) :: (m + 2, ⟨1, true, klR L⟩) :: (m + 3, ⟨1, true, ulR L⟩) :: (m + 5, ⟨1, false, ouR m L⟩) :: (tk, ⟨8, true, tlR L⟩) :: fam (m + 6) 3 L.sl.length (slR L) := by
  have e : mrow m tk (L.setW g w) = mrow m tk L := by simp [mrow, LSt.setW]
  have e2 : glR (L.setW g w) = (glR L).set g [.lit (.int .i64 (L.par g)), .lit (.int .i64 w)] := by simp [glR, LSt.setW, List.map_set, glc]
  rw [MH, LH, e, e2]
  rfl
end Go.Proofs.T
end
section
namespace Go.Proofs.T
open Go Go.AM Go.Proofs
set_option maxRecDepth 20000
variable {Γ : List (Nat × List AVal)}
set_option maxHeartbeats 8000000 in
theorem regroup (L : LSt) (n : Nat) (hS : Rt0 L n) (o : Opn) (m tk k : Nat) (hm : m + 6 + L.sl.length ≤ tk) (hk : tk < k) : OpOk Γ 37 L n o m tk k := by
  have hns := hS.ns
  have hn64 := hS.n64
  have hng := hS.ng
  have hw1 := mweighs o.weight (Γ := Γ)
  by_cases h1 : 1 ≤ o.group ∧ o.group < L.sl.length
  rotate_left
  · refine ⟨L, 0, 302, tk, k, hS, ⟨Fwd.refl L, .inr rfl⟩, hm, ⟨hk, .inl rfl⟩, Nat.le_refl _, ?_⟩
    obtain ⟨RH, eRH⟩ : ∃ x : Heap, x = MH m tk L := ⟨_, rfl⟩; obtain ⟨RV, eRV⟩ : ∃ x : AVal, x = res2 0 302 := ⟨_, rfl⟩; refine Tr.mono (Tr_in (k := k) (V := RV) (RH := RH) (by omega) (by rw [eRV]; rfl) (by rw [eRH]; exact MH_lt (by omega) (by omega)) ?_) (fun _ _ _ h => ⟨h.1, h.2.1.trans eRV, h.2.2.trans eRH⟩)
    refine Tr_at Tryz.func37 rfl 102 rfl (Nat.le_of_ble_eq_true rfl) ?_
    simp only [MH, LH]
    have kp : Kp [0,1,3,4,5,6,7,8,9,14,28,41,42,43] (fun i => if k ≤ i then i - k + 1 else 0) := kpI
    refine wlL ?_; refine zq2 ⟨fun ht => ⟨fun hg => ⟨?_⟩⟩⟩ ⟨fun ht => ⟨fun hg => ⟨?_⟩⟩⟩
    iterate 2
      · have uU := Go.AM.uU; refine cRD ?_; apply zN
        refine ⟨?_, ?_⟩
        · rw [eRV]; rfl
        · rw [eRH]
          simp only [MH, LH]
          exact rRL hdT
  by_cases h2 : 1 ≤ o.weight ∧ o.weight ≤ 65536
  rotate_left
  · rw [decide_eq_false h2] at hw1
    refine ⟨L, 0, 2, tk, k, hS, ⟨Fwd.refl L, .inr rfl⟩, hm, ⟨hk, .inl rfl⟩, Nat.le_refl _, ?_⟩
    obtain ⟨RH, eRH⟩ : ∃ x : Heap, x = MH m tk L := ⟨_, rfl⟩; obtain ⟨RV, eRV⟩ : ∃ x : AVal, x = res2 0 2 := ⟨_, rfl⟩; refine Tr.mono (Tr_in (k := k) (V := RV) (RH := RH) (by omega) (by rw [eRV]; rfl) (by rw [eRH]; exact MH_lt (by omega) (by omega)) ?_) (fun _ _ _ h => ⟨h.1, h.2.1.trans eRV, h.2.2.trans eRH⟩)
    refine Tr_at Tryz.func37 rfl 102 rfl (Nat.le_of_ble_eq_true rfl) ?_
    simp only [MH, LH]
    have kp : Kp [0,1,3,4,5,6,7,8,9,14,28,41,42,43] (fun i => if k ≤ i then i - k + 1 else 0) := kpI
    refine wlL ?_; refine zq1 ⟨fun ht => ⟨fun hg => ⟨?_⟩⟩⟩
    refine clL [.ret (.lit (.bool false))] ?_; refine zq1 ⟨⟨⟨?_⟩⟩⟩
    refine wlL ?_; refine zq1 ⟨fun ht => ⟨⟨?_⟩⟩⟩
    have uU := Go.AM.uU; refine cRD ?_; apply zN
    refine ⟨?_, ?_⟩
    · rw [eRV]; rfl
    · rw [eRH]
      simp only [MH, LH]
      exact rRL hdT
  rw [decide_eq_true h2] at hw1
  obtain ⟨g, hgg⟩ : ∃ g : Nat, o.group = (g : Int) := ⟨o.group.toNat, by omega⟩
  have hg0 : 0 < g := by omega
  have hg1 : g < L.sl.length := by omega
  obtain ⟨hN, hNF, hNt, hNr⟩ := rwN_ok hS hg1 (Nat.le_refl n)
  have hNns := hNF.ns
  have hNS : Rt0 ((rwN L g n).setW g o.weight) n := hN.setW (by omega) hg0 h2 hNr
  refine ⟨(rwN L g n).setW g o.weight, 0, 0, tk, k, hNS, ⟨hNF.trans ⟨rfl, rfl, rfl, fun _ => setW_par, fun _ => Int.le_refl _, fun _ _ => Int.le_refl _, Nat.le_succ _, by rw [setW_wt (by have := hN.ng; omega), if_neg (by omega)]⟩ (.inl rfl), .inl rfl⟩, hm, ⟨hk, .inl rfl⟩, Nat.le_refl _, ?_⟩
  have hLs : ((rwN L g n).setW g o.weight).sl.length = L.sl.length := hNns
  have hrow := hS.rows g hg1
  have hO : opc o = [.lit (.int .u8 o.kind), .lit (.int .i64 o.cpu), .lit (.int .i64 o.task), .lit (.int .i64 (g : Int)), .lit (.int .i64 o.weight), .lit (.int .i64 o.to), .lit (.int .i64 o.ticks), .lit (.int .u64 o.mask)] := by rw [← hgg]; rfl
  obtain ⟨F, hF⟩ : ∃ F : Nat → Heap, ∀ j, F j = (k, ⟨8, true, [opc o]⟩) :: MH m tk (rwN L g j) := ⟨_, fun _ => rfl⟩
  obtain ⟨RH, eRH⟩ : ∃ x : Heap, x = MH m tk ((rwN L g n).setW g o.weight) := ⟨_, rfl⟩; obtain ⟨RV, eRV⟩ : ∃ x : AVal, x = res2 0 0 := ⟨_, rfl⟩; refine Tr.mono (Tr_in (k := k) (V := RV) (RH := RH) (by omega) (by rw [eRV]; rfl) (by rw [eRH]; exact MH_lt (by omega) (by omega)) ?_) (fun _ _ _ h => ⟨h.1, h.2.1.trans eRV, h.2.2.trans eRH⟩)
  refine Tr_at Tryz.func37 rfl 102 rfl (Nat.le_of_ble_eq_true rfl) ?_
  simp only [MH, LH]
  have kp : Kp [0,1,3,4,5,6,7,8,9,14,28,41,42,43] (fun i => if k ≤ i then i - k + 1 else 0) := kpI
  have uU := zA @hgg @hrow
  refine wlL ?_; refine zq1 ⟨fun ht => ⟨fun hg => ⟨?_⟩⟩⟩
  refine clL [.ret (.lit (.bool true))] ?_; refine zq1 ⟨⟨⟨?_⟩⟩⟩
  refine wlL ?_; refine zq1 ⟨fun ht => ⟨⟨?_⟩⟩⟩
  refine M_forO (X := Nat) rfl [0,1,3,4,5,6,7,8,9,14,28,41,42,43] (k + 1) (fun j => [(42, .lit (.int .i64 (j : Int)))]) (fun j => F j) (fun j => j ≤ n) (fun j => n - j) 0 ?_ (Nat.zero_le _) ?_
  · rw [hF, hO, rwN]
    simp only [MH, LH]
    refine rRL ?_; apply zN
    exact wkD
  intro j hj
  obtain ⟨hM, hMF, hMt, hMr⟩ := rwN_ok hS hg1 hj
  have hMl := hMF.ns
  have hsucc : rwN L g (j + 1) = rw1 (rwN L g j) g j := rfl
  have hlast : j = n → rwN L g n = rwN L g j := fun e => by rw [e]
  rw [hF j, hO]
  obtain ⟨M, eM⟩ : ∃ M, M = rwN L g j := ⟨_, rfl⟩
  rw [← eM] at hM hMl hMF hsucc hlast ⊢
  have hMrow := hM.rows g (by omega)
  have hMng := hM.ng
  simp only [MH, LH]
  have uU := zA @hgg @hMrow
  refine rRL ?_; apply zN
  by_cases hj2 : j < n
  · have hs1 := hM.sp g j (by omega) hj2
    have hwt := hM.wt g (by omega)
    have hset : ∀ x, ((slR M g).set j x)[j]? = some x := fun x => List.getElem?_set_self (by rw [slR_len, hMrow]; exact hj2)
    have uU := zA @hgg (zA @hMrow (zA @hset @ssN))
    refine wlL ?_; refine zq1 ⟨fun ht => ⟨⟨?_⟩⟩⟩
    refine dlL [.ret (enc (M.sp g j).v (M.sp g j).r (M.wt g)), .ret (.tup [enc (M.sp g j).v 0 o.weight, .lit (.int .i64 0)])] ?_; refine zq3 ⟨⟨⟨?_⟩⟩⟩ ⟨⟨⟨?_⟩⟩⟩ ⟨⟨⟨?_⟩⟩⟩
    · exact mentity _ _ _ (by omega) (by omega)
    · exact chargeWeigh _ _ _ _ hs1.1 h2.1 h2.2
    refine wlL ?_; refine zq1 ⟨⟨⟨?_⟩⟩⟩
    refine ⟨j + 1, by omega, by omega, ?_⟩
    rw [hF, hO, hsucc, rw1, MH_setS (by omega)]
    refine rRL ?_; apply zN
    exact wkD
  · have hj3 : j = n := by omega
    rw [hlast hj3] at eRH
    have hsetg : ∀ x, ((glR M).set g x)[g]? = some x := fun x => List.getElem?_set_self (by rw [glR_len]; omega)
    have uU := zA @hgg (zA @hMrow @hsetg)
    refine wlL ?_; refine zq1 ⟨fun ht => ⟨⟨?_⟩⟩⟩
    have uU := zA @hgg (zA @hMrow @hsetg); refine cRD ?_; apply zN
    refine ⟨?_, ?_⟩
    · rw [eRV]; rfl
    · rw [eRH, MH_setW]
      simp only [mrow]
      exact rRL hdT
end Go.Proofs.T
end
section
namespace Go.Proofs.T
open Go Go.AM Go.Proofs
set_option maxRecDepth 20000
variable {Γ : List (Nat × List AVal)}
def LSt.setK (L : LSt) (c : Nat) (x : Int) : LSt := { L with kl := L.kl.set c x }
theorem setK_clk {L : LSt} {c d : Nat} {x : Int} (hc : c < L.kl.length) : (L.setK c x).clk d = if d = c then x else L.clk d := by
  unfold LSt.setK LSt.clk
  simp only [List.getD_eq_getElem?_getD, List.getElem?_set]
  by_cases h : d = c
  · subst h; simp [hc]
  · rw [if_neg (Ne.symm h), if_neg h]
theorem MH_setK {m tk c : Nat} {L : LSt} {x : Int} : MH m tk (L.setK c x) = (m, ⟨8, false, [mrow m tk L]⟩) :: (m + 1, ⟨2, true, glR L⟩) :: (m + 2, ⟨1, true, (klR L).set c [.lit (.int .i64 x)]⟩) :: (m + 3, ⟨1, true, ulR L⟩) :: (m + 5, ⟨1, false, ouR m L⟩) :: (tk, ⟨8, true, tlR L⟩) :: fam (m + 6) 3 L.sl.length (slR L) := by
  have e : mrow m tk (L.setK c x) = mrow m tk L := by simp [mrow, LSt.setK]
  have e2 : klR (L.setK c x) = (klR L).set c [.lit (.int .i64 x)] := by simp [klR, LSt.setK, List.map_set, inc]
  rw [MH, LH, e, e2]
  rfl
theorem Rt0.setK {L : LSt} {n c : Nat} {x : Int} (h : Rt0 L n) (hc : c < n) (hx : 0 ≤ x ∧ x ≤ 281474976710656) : Rt0 (L.setK c x) n :=
  ⟨h.n1, h.n64, h.cpus, h.cr0, h.cr, h.ng, h.ns1, h.ns, by show (L.kl.set c x).length = n; rw [List.length_set]; exact h.nk, h.nu, h.rows, h.nt, h.par, h.par0, h.wt, fun d hd => by
    rw [setK_clk (by rw [h.nk]; exact hc)]
    split
    · exact hx
    · exact h.clk d hd, h.sp, h.root, fun i hi => by have t := h.tk i hi; exact ⟨t.id1, t.id2, t.g0, t.g1, t.c0, t.c1, t.e, t.v0, t.v1, t.r0, t.m0, t.m1, t.m2, t.m3⟩, h.sorted, h.cur⟩
theorem Fwd.setK {L : LSt} {c : Nat} {x : Int} (hc : c < L.kl.length) (hx : L.clk c ≤ x) : Fwd L (L.setK c x) :=
  ⟨rfl, rfl, rfl, fun _ => rfl, fun d => by
    rw [setK_clk hc]
    split
    · rename_i e; rw [e]; exact hx
    · exact Int.le_refl _, fun _ _ => Int.le_refl _, Nat.le_succ _, rfl⟩
theorem add_ok {v r w t : Int} (he : ent v r w = true) (hv : 0 ≤ v) (hv2 : v ≤ 18446744073709551615) (hr : 0 ≤ r) (ht : 0 ≤ t) :
    ent (addZ v r w t).1 (addZ v r w t).2 w = true ∧ 0 ≤ (addZ v r w t).1 ∧ (addZ v r w t).1 ≤ 18446744073709551615 ∧ 0 ≤ (addZ v r w t).2 := by
  simp only [ent, decide_eq_true_eq] at he
  obtain ⟨q, eq⟩ : ∃ q, q = (t * 1048576 + r) / w := ⟨_, rfl⟩
  obtain ⟨s, es⟩ : ∃ s, s = (t * 1048576 + r) % w := ⟨_, rfl⟩
  have h1 : 0 ≤ q := by rw [eq]; exact Int.ediv_nonneg (by omega) (by omega)
  have h2 : 0 ≤ s := by rw [es]; exact Int.emod_nonneg _ (by omega)
  have h3 : s < w := by rw [es]; exact Int.emod_lt_of_pos _ (by omega)
  unfold addZ
  rw [← eq, ← es]
  split
  · simp only [ent, decide_eq_true_eq]
    exact ⟨⟨he.1, he.2.1, by omega, .inr trivial⟩, by omega, by omega, by omega⟩
  · simp only [ent, decide_eq_true_eq]
    refine ⟨?_, ?_, ?_, ?_⟩ <;> omega
def chg1 (L : LSt) (c : Nat) (t : Int) (g : Nat) : LSt := L.setS g c { L.sp g c with v := (addZ (L.sp g c).v (L.sp g c).r (L.wt g) t).1, r := (addZ (L.sp g c).v (L.sp g c).r (L.wt g) t).2 }
def chgN (c : Nat) (t : Int) : Nat → LSt → Nat → LSt
  | 0, L, _ => L
  | f + 1, L, g => if g = 0 then L else chgN c t f (chg1 L c t g) (L.par g).toNat
theorem chg1_ok {L : LSt} {n c g : Nat} {t : Int} (h : Rt0 L n) (hc : c < n) (hg0 : 0 < g) (hg : g < L.sl.length) (ht : 0 ≤ t) : Rt0 (chg1 L c t g) n ∧ Fwd L (chg1 L c t g) ∧ (chg1 L c t g).tl = L.tl := by
  obtain ⟨a1, a2, a3, a4, a5, a6⟩ := h.sp g c hg hc
  have := add_ok a1 a2 a3 a4 ht
  exact ⟨h.setS hg hc ⟨this.1, this.2.1, this.2.2.1, this.2.2.2, a5, a6⟩ (fun e => by omega), Fwd.setS hg (by rw [h.rows g hg]; exact hc) (Int.le_refl _), rfl⟩
theorem chgN_ok {n c : Nat} {t : Int} (hc : c < n) (ht : 0 ≤ t) : ∀ {f : Nat} {L : LSt} {g : Nat}, Rt0 L n → g < L.sl.length → Rt0 (chgN c t f L g) n ∧ Fwd L (chgN c t f L g) ∧ (chgN c t f L g).tl = L.tl
  | 0, L, g, h, _ => ⟨h, Fwd.refl L, rfl⟩
  | f + 1, L, g, h, hg => by
    rw [chgN]
    split
    · exact ⟨h, Fwd.refl L, rfl⟩
    rename_i hg0
    obtain ⟨h1, h2, h3⟩ := chg1_ok h hc (by omega) hg ht
    have hp := h.par g (by omega) hg
    obtain ⟨h4, h5, h6⟩ := chgN_ok hc ht (f := f) (g := (L.par g).toNat) h1 (by rw [h2.ns]; omega)
    exact ⟨h4, h2.trans h5 (.inl (by rw [h6])), h6.trans h3⟩
end Go.Proofs.T
end
section
namespace Go.Proofs.T
open Go Go.AM Go.Proofs
set_option maxRecDepth 20000
variable {Γ : List (Nat × List AVal)}
set_option maxHeartbeats 8000000 in
theorem tick (L : LSt) (n : Nat) (hS : Rt0 L n) (o : Opn) (m tk k : Nat) (hm : m + 6 + L.sl.length ≤ tk) (hk : tk < k) : OpOk Γ 34 L n o m tk k := by
  have hnt := hS.nt
  have hcp := hS.cpus
  have hnu := hS.nu
  have hnk := hS.nk
  have hn64 := hS.n64
  have hcpu := cpu L o.cpu m tk (k + 1) hm (by omega) (Γ := Γ)
  by_cases h1 : 0 ≤ o.cpu ∧ o.cpu < L.cpus
  rotate_left
  · rw [decide_eq_false h1] at hcpu
    refine ⟨L, 0, 300, tk, k, hS, ⟨Fwd.refl L, .inr rfl⟩, hm, ⟨hk, .inl rfl⟩, Nat.le_refl _, ?_⟩
    obtain ⟨RH, eRH⟩ : ∃ x : Heap, x = MH m tk L := ⟨_, rfl⟩; obtain ⟨RV, eRV⟩ : ∃ x : AVal, x = res2 (0) 300 := ⟨_, rfl⟩; refine Tr.mono (Tr_in (k := k) (V := RV) (RH := RH) (by omega) (by rw [eRV]; rfl) (by rw [eRH]; exact MH_lt (by omega) (by omega)) ?_) (fun _ _ _ h => ⟨h.1, h.2.1.trans eRV, h.2.2.trans eRH⟩)
    refine Tr_at Tryz.func34 rfl 158 rfl (Nat.le_of_ble_eq_true rfl) ?_
    simp only [MH, LH]
    have kp : Kp [0,1,3,4,5,6,7,8,9,11,12,13,18,24,33,67,103] (fun i => if k ≤ i then i - k + 1 else 0) := kpI
    refine wlL ?_; refine zq1 ⟨⟨⟨?_⟩⟩⟩
    refine clL [.far (.lit (.bool false)) (k + 1) [(k, ⟨8, true, [opc o]⟩)] (MH m tk L) (MH m tk L)] ?_; refine zq3 ⟨⟨⟨?_⟩⟩⟩ ⟨⟨⟨?_⟩⟩⟩ ⟨⟨⟨?_⟩⟩⟩
    · intro q; simp only [MH, LH, mrow, opc, List.cons_append, List.nil_append]
    · exact MH_apart (fun i hi => by simp only [AM.look]; repeat (rw [if_neg (by omega)])) rfl
    simp only [MH, LH]
    refine rRL ?_; apply zN
    refine wlL ?_; refine zq1 ⟨fun ht => ⟨⟨?_⟩⟩⟩
    have uU := Go.AM.uU; refine cRD ?_; apply zN
    refine ⟨?_, ?_⟩
    · rw [eRV]; rfl
    · rw [eRH]
      simp only [MH, LH]
      exact rRL hdT
  rw [decide_eq_true h1] at hcpu
  obtain ⟨c, hc⟩ : ∃ c : Nat, o.cpu = (c : Int) := ⟨o.cpu.toNat, by omega⟩
  rw [hc] at hcpu
  have hcn : c < n := by omega
  have hO : opc o = [.lit (.int .u8 o.kind), .lit (.int .i64 (c : Int)), .lit (.int .i64 o.task), .lit (.int .i64 o.group), .lit (.int .i64 o.weight), .lit (.int .i64 o.to), .lit (.int .i64 o.ticks), .lit (.int .u64 o.mask)] := by rw [← hc]; rfl
  by_cases h2 : 1 ≤ o.ticks ∧ o.ticks ≤ 4294967295
  rotate_left
  · refine ⟨L, 0, 2, tk, k, hS, ⟨Fwd.refl L, .inr rfl⟩, hm, ⟨hk, .inl rfl⟩, Nat.le_refl _, ?_⟩
    obtain ⟨RH, eRH⟩ : ∃ x : Heap, x = MH m tk L := ⟨_, rfl⟩; obtain ⟨RV, eRV⟩ : ∃ x : AVal, x = res2 (0) 2 := ⟨_, rfl⟩; refine Tr.mono (Tr_in (k := k) (V := RV) (RH := RH) (by omega) (by rw [eRV]; rfl) (by rw [eRH]; exact MH_lt (by omega) (by omega)) ?_) (fun _ _ _ h => ⟨h.1, h.2.1.trans eRV, h.2.2.trans eRH⟩)
    refine Tr_at Tryz.func34 rfl 158 rfl (Nat.le_of_ble_eq_true rfl) ?_
    simp only [MH, LH]
    have kp : Kp [0,1,3,4,5,6,7,8,9,11,12,13,18,24,33,67,103] (fun i => if k ≤ i then i - k + 1 else 0) := kpI
    have uU := @hc
    refine wlL ?_; refine zq1 ⟨⟨⟨?_⟩⟩⟩
    refine clL [.far (.lit (.bool true)) (k + 1) [(k, ⟨8, true, [opc o]⟩)] (MH m tk L) (MH m tk L)] ?_; refine zq3 ⟨⟨⟨?_⟩⟩⟩ ⟨⟨⟨?_⟩⟩⟩ ⟨⟨⟨?_⟩⟩⟩
    · intro q; simp only [MH, LH, mrow, opc, hc, List.cons_append, List.nil_append]
    · exact MH_apart (fun i hi => by simp only [AM.look]; repeat (rw [if_neg (by omega)])) rfl
    simp only [MH, LH]
    refine rRL ?_; apply zN
    refine wlL ?_; refine zq2 ⟨fun ht ht => ⟨fun hg => ⟨?_⟩⟩⟩ ⟨fun ht ht => ⟨fun hg => ⟨?_⟩⟩⟩
    iterate 2
      · have uU := @hc; refine cRD ?_; apply zN
        refine ⟨?_, ?_⟩
        · rw [eRV]; rfl
        · rw [eRH]
          simp only [MH, LH]
          exact rRL hdT
  have hck := hS.clk c hcn
  have hwr : IntKind.i64.wrap (L.clk c + o.ticks) = L.clk c + o.ticks := wrap_i64 (by omega) (by omega)
  by_cases h3 : L.clk c + o.ticks ≤ 281474976710656
  rotate_left
  · refine ⟨L, 0, 4, tk, k, hS, ⟨Fwd.refl L, .inr rfl⟩, hm, ⟨hk, .inl rfl⟩, Nat.le_refl _, ?_⟩
    obtain ⟨RH, eRH⟩ : ∃ x : Heap, x = MH m tk L := ⟨_, rfl⟩; obtain ⟨RV, eRV⟩ : ∃ x : AVal, x = res2 (0) 4 := ⟨_, rfl⟩; refine Tr.mono (Tr_in (k := k) (V := RV) (RH := RH) (by omega) (by rw [eRV]; rfl) (by rw [eRH]; exact MH_lt (by omega) (by omega)) ?_) (fun _ _ _ h => ⟨h.1, h.2.1.trans eRV, h.2.2.trans eRH⟩)
    refine Tr_at Tryz.func34 rfl 158 rfl (Nat.le_of_ble_eq_true rfl) ?_
    simp only [MH, LH]
    have kp : Kp [0,1,3,4,5,6,7,8,9,11,12,13,18,24,33,67,103] (fun i => if k ≤ i then i - k + 1 else 0) := kpI
    have uU := zA @hc @hwr
    refine wlL ?_; refine zq1 ⟨⟨⟨?_⟩⟩⟩
    refine clL [.far (.lit (.bool true)) (k + 1) [(k, ⟨8, true, [opc o]⟩)] (MH m tk L) (MH m tk L)] ?_; refine zq3 ⟨⟨⟨?_⟩⟩⟩ ⟨⟨⟨?_⟩⟩⟩ ⟨⟨⟨?_⟩⟩⟩
    · intro q; simp only [MH, LH, mrow, opc, hc, List.cons_append, List.nil_append]
    · exact MH_apart (fun i hi => by simp only [AM.look]; repeat (rw [if_neg (by omega)])) rfl
    simp only [MH, LH]
    refine rRL ?_; apply zN
    refine wlL ?_; refine zq1 ⟨fun ht ht ht => ⟨fun hg => ⟨?_⟩⟩⟩
    have uU := zA @hc @hwr; refine cRD ?_; apply zN
    refine ⟨?_, ?_⟩
    · rw [eRV]; rfl
    · rw [eRH]
      simp only [MH, LH]
      exact rRL hdT
  have hK : Rt0 (L.setK c (L.clk c + o.ticks)) n := hS.setK hcn ⟨by omega, h3⟩
  have hKF : Fwd L (L.setK c (L.clk c + o.ticks)) := Fwd.setK (by omega) (by omega)
  have hsetk : ∀ x, ((klR L).set c x)[c]? = some x := fun x => List.getElem?_set_self (by rw [klR_len]; omega)
  by_cases h4 : L.cur c = 0
  · refine ⟨L.setK c (L.clk c + o.ticks), 0, 0, tk, k, hK, ⟨hKF, .inl rfl⟩, hm, ⟨hk, .inl rfl⟩, Nat.le_refl _, ?_⟩
    have hLs : (L.setK c (L.clk c + o.ticks)).sl.length = L.sl.length := rfl
    obtain ⟨RH, eRH⟩ : ∃ x : Heap, x = MH m tk (L.setK c (L.clk c + o.ticks)) := ⟨_, rfl⟩; obtain ⟨RV, eRV⟩ : ∃ x : AVal, x = res2 (0) 0 := ⟨_, rfl⟩; refine Tr.mono (Tr_in (k := k) (V := RV) (RH := RH) (by omega) (by rw [eRV]; rfl) (by rw [eRH]; exact MH_lt (by omega) (by omega)) ?_) (fun _ _ _ h => ⟨h.1, h.2.1.trans eRV, h.2.2.trans eRH⟩)
    refine Tr_at Tryz.func34 rfl 158 rfl (Nat.le_of_ble_eq_true rfl) ?_
    simp only [MH, LH]
    have kp : Kp [0,1,3,4,5,6,7,8,9,11,12,13,18,24,33,67,103] (fun i => if k ≤ i then i - k + 1 else 0) := kpI
    have uU := zA @hc (zA @hwr (zA @hsetk @h4))
    refine wlL ?_; refine zq1 ⟨⟨⟨?_⟩⟩⟩
    refine clL [.far (.lit (.bool true)) (k + 1) [(k, ⟨8, true, [opc o]⟩)] (MH m tk L) (MH m tk L)] ?_; refine zq3 ⟨⟨⟨?_⟩⟩⟩ ⟨⟨⟨?_⟩⟩⟩ ⟨⟨⟨?_⟩⟩⟩
    · intro q; simp only [MH, LH, mrow, opc, hc, List.cons_append, List.nil_append]
    · exact MH_apart (fun i hi => by simp only [AM.look]; repeat (rw [if_neg (by omega)])) rfl
    simp only [MH, LH]
    refine rRL ?_; apply zN
    refine wlL ?_; refine zq1 ⟨fun ht ht ht ht => ⟨fun hg => ⟨?_⟩⟩⟩
    have uU := zA @hc (zA @hwr (zA @hsetk @h4)); refine cRD ?_; apply zN
    refine ⟨?_, ?_⟩
    · rw [eRV]; rfl
    · rw [eRH, MH_setK]
      simp only [mrow]
      exact rRL hdT
  obtain ⟨i, hi0, hir, hic, hid0⟩ := (hS.cur c hcn).resolve_left h4
  have eMH := MH_setK (m := m) (tk := tk) (c := c) (L := L) (x := L.clk c + o.ticks)
  simp only [mrow] at eMH
  obtain ⟨Kx, eK⟩ : ∃ Kx, Kx = L.setK c (L.clk c + o.ticks) := ⟨_, rfl⟩
  rw [← eK] at eMH hK hKF
  have hKt : Kx.tl = L.tl := by rw [eK]; rfl
  have hKs : Kx.sl.length = L.sl.length := by rw [eK]; rfl
  have hKc : L.cur c = Kx.cur c := by rw [eK]; rfl
  have hKi : Kx.tsk i = L.tsk i := by rw [eK]; rfl
  have hi : i < Kx.tl.length := by rw [hKt]; exact hi0
  have hfp := findP Kx (Kx.cur c) i (.inr ⟨i, hi, rfl, by rw [hKi, hid0, hKc]⟩) hK.sorted (by have := hK.nt; omega) (Γ := Γ)
  rw [← hKc] at hfp
  have hmK : m + 6 + Kx.sl.length ≤ tk := by omega
  obtain ⟨NM, eNM⟩ : ∃ x, x = (MH m tk Kx).map (·.1) := ⟨_, rfl⟩
  have hNM : nub (NM.map (fun i => if k ≤ i then i - k + 1 else 0)) = [0] := by rw [eNM]; exact MH_names hmK hk (fun i hi => if_neg (by omega))
  have hT := hK.tk i hi
  have hTe := hT.e
  simp only [ent, decide_eq_true_eq] at hTe
  obtain ⟨g0, hgr⟩ : ∃ g : Nat, (Kx.tsk i).group = (g : Int) := ⟨(Kx.tsk i).group.toNat, by have := hT.g0; omega⟩
  have hg1 : g0 < Kx.sl.length := by have := hT.g1; omega
  have hmv := add_ok (t := o.ticks) hT.e hT.v0 hT.v1 hT.r0 (by omega)
  obtain ⟨z, ez⟩ : ∃ z, z = addZ (Kx.tsk i).v (Kx.tsk i).r (Kx.tsk i).weight o.ticks := ⟨_, rfl⟩
  rw [← ez] at hmv
  obtain ⟨T1, eT⟩ : ∃ T1, T1 = (Kx.tsk i).run z.1 z.2 (Kx.tsk i).weight := ⟨_, rfl⟩
  have hL1 : Rt0 (Kx.setT i T1) n := by
    rw [eT]
    exact hK.setT hi ⟨hT.id1, hT.id2, hT.g0, hT.g1, hT.c0, hT.c1, hmv.1, hmv.2.1, hmv.2.2.1, hmv.2.2.2, hT.m0, hT.m1, hT.m2, hT.m3⟩ rfl (fun d _ _ h3 h4 => ⟨h3, h4⟩)
  obtain ⟨Z, eZ⟩ : ∃ Z, Z = chgN c o.ticks Kx.sl.length (Kx.setT i T1) g0 := ⟨_, rfl⟩
  have hZ := chgN_ok hcn (show 0 ≤ o.ticks by omega) (f := Kx.sl.length) hL1 (g := g0) (by show g0 < Kx.sl.length; exact hg1)
  rw [← eZ] at hZ
  have hZs : Z.sl.length = L.sl.length := by rw [hZ.2.1.ns, ← hKs]; rfl
  have hset : ∀ x, ((tlR Kx).set i x)[i]? = some x := fun x => List.getElem?_set_self (by rw [tlR_len]; exact hi)
  have hns := hS.ns
  refine ⟨Z, L.cur c, 0, tk, k, hZ.1, ⟨hKF.trans (Fwd.setT.trans hZ.2.1 (.inl (by rw [hZ.2.2]))) (.inr (by rw [hKt]; exact Nat.le_refl _)), .inl rfl⟩, hm, ⟨hk, .inl rfl⟩, Nat.le_refl _, ?_⟩
  obtain ⟨RH, eRH⟩ : ∃ x : Heap, x = MH m tk Z := ⟨_, rfl⟩; obtain ⟨RV, eRV⟩ : ∃ x : AVal, x = res2 (L.cur c) 0 := ⟨_, rfl⟩; refine Tr.mono (Tr_in (k := k) (V := RV) (RH := RH) (by omega) (by rw [eRV]; rfl) (by rw [eRH]; exact MH_lt (by omega) (by omega)) ?_) (fun _ _ _ h => ⟨h.1, h.2.1.trans eRV, h.2.2.trans eRH⟩)
  obtain ⟨F, hF⟩ : ∃ F : LSt → Heap, ∀ M, F M = (k, ⟨8, true, [opc o]⟩) :: MH m tk M := ⟨_, fun _ => rfl⟩
  refine Tr_at Tryz.func34 rfl 158 rfl (Nat.le_of_ble_eq_true rfl) ?_
  simp only [MH, LH]
  have kp : Kp [0,1,3,4,5,6,7,8,9,11,12,13,18,24,33,67,103] (fun i => if k ≤ i then i - k + 1 else 0) := kpI
  have uU := zA @hc (zA @hwr @hsetk)
  refine wlL ?_; refine zq1 ⟨⟨⟨?_⟩⟩⟩
  refine clL [.far (.lit (.bool true)) (k + 1) [(k, ⟨8, true, [opc o]⟩)] (MH m tk L) (MH m tk L)] ?_; refine zq3 ⟨⟨⟨?_⟩⟩⟩ ⟨⟨⟨?_⟩⟩⟩ ⟨⟨⟨?_⟩⟩⟩
  · intro q; simp only [MH, LH, mrow, opc, hc, List.cons_append, List.nil_append]
  · exact MH_apart (fun i hi => by simp only [AM.look]; repeat (rw [if_neg (by omega)])) rfl
  simp only [MH, LH]
  refine rRL ?_; apply zN
  refine wlL ?_; refine zq1 ⟨fun ht ht ht ht => ⟨fun hg => ⟨?_⟩⟩⟩
  rw [← eMH]
  simp only [MH, LH]
  have uU := zA @hc @hNM
  refine dlL [.raw (some 74) ⟨.lit (.int .i64 (i : Int)), k + 1, [], NM⟩] ?_; refine zq2 ⟨⟨⟨?_⟩⟩⟩ ⟨⟨⟨?_⟩⟩⟩
  · exact lend (loc := [(k, ⟨8, true, _⟩)]) hmK rfl (by kernel_rfl) rfl rfl rfl (fun x hx => by rw [List.mem_singleton.1 hx]; exact hk) hfp eNM
  refine wlL ?_; refine zq1 ⟨⟨⟨?_⟩⟩⟩
  refine dlL [.ret (enc (Kx.tsk i).v (Kx.tsk i).r (Kx.tsk i).weight), .ret (.tup [enc z.1 z.2 (Kx.tsk i).weight, .lit (.int .i64 0)])] ?_; refine zq3 ⟨⟨⟨?_⟩⟩⟩ ⟨⟨⟨?_⟩⟩⟩ ⟨⟨⟨?_⟩⟩⟩
  · exact mentity _ _ _ (by omega) (by omega)
  · rw [ez]
    exact chargeAdd _ _ _ _ hT.e hT.v0 hT.v1 hT.r0 (by omega) (by omega)
  refine wlL ?_; refine zq1 ⟨⟨⟨?_⟩⟩⟩
  refine clL [.gen (.tup []) (k + 2) [(tk, ⟨8, true, tlR Kx⟩)] [(tk, ⟨8, true, (tlR Kx).set i (tkc ((Kx.tsk i).run z.1 z.2 (Kx.tsk i).weight))⟩)]] ?_; refine zq2 ⟨⟨⟨?_⟩⟩⟩ ⟨⟨⟨?_⟩⟩⟩
  · exact mput (Kx.tsk i) z.1 z.2 (Kx.tsk i).weight (tlR Kx) tk i (tlR_get hi) (by omega) (by omega) (k + 2) (by omega)
  have uU := zA @hc (zA @hgr (zA @hset @Tk.run.eq_1))
  refine wlL ?_; refine zq1 ⟨⟨⟨?_⟩⟩⟩
  have hT1 : tkc T1 = [.lit (.int .i64 (Kx.tsk i).id), .lit (.int .i64 (g0 : Int)), .lit (.int .i64 (Kx.tsk i).weight), .lit (.int .i64 (Kx.tsk i).cpu), .lit (.int .u64 (Kx.tsk i).mask), .lit (.bool (Kx.tsk i).ready), .lit (.int .u64 z.1), .lit (.int .u32 z.2)] := by rw [eT, ← hgr]; rfl
  refine M_forO (X := LSt × Nat × Nat) rfl [0,1,3,4,5,6,7,8,9,11,12,13,18,24,33,67,103] (k + 2) (fun x => [(11, .lit (.int .i64 (x.2.1 : Int)))]) (fun x => F x.1) (fun x => Rt0 x.1 n ∧ x.1.sl.length = L.sl.length ∧ x.2.1 < L.sl.length ∧ x.2.1 < x.2.2 ∧ Z = chgN c o.ticks x.2.2 x.1 x.2.1) (fun x => x.2.2) (Kx.setT i T1, g0, Kx.sl.length) ?_ ⟨hL1, hKs, by show g0 < L.sl.length; omega, hg1, eZ⟩ ?_
  · rw [hF, MH_setT, hT1]
    simp only [mrow, opc, hc]
    refine rRL ?_; apply zN
    exact wkD
  rintro ⟨M, g, f⟩ ⟨hM, hMl, hg2, hgf, hZf⟩
  simp only [] at hM hMl hg2 hgf hZf
  obtain ⟨f, rfl⟩ : ∃ f', f = f' + 1 := ⟨f - 1, by omega⟩
  rw [chgN] at hZf
  rw [hF]
  have hMng := hM.ng
  have hrow := hM.rows g (by omega)
  simp only [MH, LH]
  have uU := zA @hc (zA @hMl @hrow)
  refine rRL ?_; apply zN
  by_cases hg0 : g = 0
  · rw [if_pos hg0] at hZf
    subst hg0
    refine wlL ?_; refine zq1 ⟨fun ht => ⟨⟨?_⟩⟩⟩
    have uU := zA @hc (zA @hMl @hrow); refine cRD ?_; apply zN
    refine ⟨?_, ?_⟩
    · rw [eRV]; rfl
    · rw [eRH, hZf]
      simp only [MH, LH]
      exact rRL hdT
  · rw [if_neg hg0] at hZf
    obtain ⟨hp0, hp1⟩ := hM.par g (by omega) (by omega)
    obtain ⟨p, hp⟩ : ∃ p : Nat, M.par g = (p : Int) := ⟨(M.par g).toNat, by omega⟩
    have hwt := hM.wt g (by omega)
    have hs1 := hM.sp g c (by omega) hcn
    obtain ⟨y, ey⟩ : ∃ y, y = addZ (M.sp g c).v (M.sp g c).r (M.wt g) o.ticks := ⟨_, rfl⟩
    have hC := chg1_ok hM hcn (g := g) (t := o.ticks) (by omega) (by omega) (by omega)
    have hsetS : ∀ x, ((slR M g).set c x)[c]? = some x := fun x => List.getElem?_set_self (by rw [slR_len, hrow]; exact hcn)
    have uU := zA @hc (zA @hMl (zA @hrow (zA @hp (zA @hsetS @ssN))))
    refine wlL ?_; refine zq1 ⟨fun ht => ⟨⟨?_⟩⟩⟩
    refine dlL [.ret (enc (M.sp g c).v (M.sp g c).r (M.wt g)), .ret (.tup [enc y.1 y.2 (M.wt g), .lit (.int .i64 0)])] ?_; refine zq3 ⟨⟨⟨?_⟩⟩⟩ ⟨⟨⟨?_⟩⟩⟩ ⟨⟨⟨?_⟩⟩⟩
    · exact mentity _ _ _ (by omega) (by omega)
    · rw [ey]
      exact chargeAdd _ _ _ _ hs1.1 hs1.2.1 hs1.2.2.1 hs1.2.2.2.1 (by omega) (by omega)
    refine wlL ?_; refine zq1 ⟨⟨⟨?_⟩⟩⟩
    rw [hp, Int.toNat_natCast] at hZf
    refine ⟨(chg1 M c o.ticks g, p, f), ⟨hC.1, by rw [hC.2.1.ns]; exact hMl, by show p < L.sl.length; omega, by show p < f; omega, hZf⟩, Nat.lt_succ_self f, ?_⟩
    rw [hF, chg1, MH_setS (by omega), ← ey]
    simp only [mrow, opc, hc]
    refine rRL ?_; apply zN
    exact wkD
end Go.Proofs.T
end
section
namespace Go.Proofs.T
open Go Go.AM Go.Proofs
set_option maxRecDepth 20000
variable {Γ : List (Nat × List AVal)}
theorem apart_accR {loc X Y : Heap} {k s : Nat} {l : List (List AVal)} (h1 : AM.look loc k = none) (h : apartH loc X Y) : apartH loc X (accH k s l Y) := fun i hi => by
  rcases hi with hi | hi
  · exact h i (.inl hi)
  · rcases keyB_acc hi with rfl | hi
    · exact h1
    · exact h i (.inr hi)
theorem perm_tk2 {m tk a b id s : Nat} {B X Y B0 B1 B2 B3 B5 : Blk} {l : List (List AVal)} {F : Heap} (h1 : tk ≠ a) (h3 : tk ≠ b) (h2 : tk ≠ id) (hm : m + 6 ≤ tk) (q : Nat) :
    AM.look ((tk, B) :: (a, X) :: (b, Y) :: accH id s l ((m, B0) :: (m + 1, B1) :: (m + 2, B2) :: (m + 3, B3) :: (m + 5, B5) :: F)) q = AM.look ((a, X) :: (b, Y) :: accH id s l ((m, B0) :: (m + 1, B1) :: (m + 2, B2) :: (m + 3, B3) :: (m + 5, B5) :: (tk, B) :: F)) q := by
  by_cases hq : q = tk
  · subst hq
    have e1 : AM.look ((a, X) :: (b, Y) :: accH id s l ((m, B0) :: (m + 1, B1) :: (m + 2, B2) :: (m + 3, B3) :: (m + 5, B5) :: (q, B) :: F)) q = some B := by
      simp only [AM.look]
      rw [if_neg (Ne.symm h1), if_neg (Ne.symm h3), look_acc (Ne.symm h2)]
      simp only [AM.look]
      repeat rw [if_neg (by omega)]
      rw [if_pos trivial]
    rw [e1]
    simp only [AM.look, if_true]
  · have e1 : ∀ Z, AM.look ((tk, B) :: Z) q = AM.look Z q := fun Z => by simp only [AM.look]; rw [if_neg (fun h => hq h.symm)]
    rw [e1]
    refine look_cons2 (look_cons2 (look_acc2 (look_cons2 (look_cons2 (look_cons2 (look_cons2 (look_cons2 ?_)))))))
    rw [e1]
theorem isEmpty_app {α : Type} {l r : List α} : (l ++ r).isEmpty = (l.isEmpty && r.isEmpty) := by cases l <;> rfl
theorem MH_ie {m tk : Nat} {L : LSt} : (MH m tk L).isEmpty = false := rfl
theorem callOut_lt {H H' : Heap} {k : Nat} (h : bdH (ltB k) H = true) (h' : bdH (ltB k) H' = true) : ((List.map (fun x => x.fst) (List.map (fun (x : Nat × Blk) => (x.fst, some x.snd)) H) ++ List.map (fun x => x.fst) (List.map (fun (x : Nat × Blk) => (x.fst, (none : Option Blk))) H')).all fun x => decide (x < k)) = true := by
  simp only [bdH, List.all_eq_true, Bool.and_eq_true] at h h'
  simp only [List.all_eq_true, List.mem_append, List.mem_map]
  rintro x (⟨y, ⟨z, hz, rfl⟩, rfl⟩ | ⟨y, ⟨z, hz, rfl⟩, rfl⟩)
  · exact (h z hz).1
  · exact (h' z hz).1
def Tk.rdy (t : Tk) : Tk := { t with ready := true }
set_option maxHeartbeats 8000000 in
theorem rouse (L : LSt) (n : Nat) (hS : Rt0 L n) (o : Opn) (m tk k : Nat) (hm : m + 6 + L.sl.length ≤ tk) (hk : tk < k) : OpOk Γ 32 L n o m tk k := by
  have hnt := hS.nt
  have hns := hS.ns
  have htask := mtask o.task (Γ := Γ)
  by_cases h1 : 1 ≤ o.task ∧ o.task ≤ 65535
  rotate_left
  · rw [decide_eq_false h1] at htask
    refine ⟨L, 0, 301, tk, k, hS, ⟨Fwd.refl L, .inr rfl⟩, hm, ⟨hk, .inl rfl⟩, Nat.le_refl _, ?_⟩
    obtain ⟨RH, eRH⟩ : ∃ x : Heap, x = MH m tk L := ⟨_, rfl⟩; obtain ⟨RV, eRV⟩ : ∃ x : AVal, x = res2 (0) 301 := ⟨_, rfl⟩; refine Tr.mono (Tr_in (k := k) (V := RV) (RH := RH) (by omega) (by rw [eRV]; rfl) (by rw [eRH]; exact MH_lt (by omega) (by omega)) ?_) (fun _ _ _ h => ⟨h.1, h.2.1.trans eRV, h.2.2.trans eRH⟩)
    refine Tr_at Tryz.func32 rfl 103 rfl (Nat.le_of_ble_eq_true rfl) ?_
    simp only [MH, LH]
    have kp : Kp [0,1,3,4,5,6,7,8,9,14,19,22] (fun i => i - k) := kpI
    refine wlL ?_; refine zq1 ⟨⟨⟨?_⟩⟩⟩
    refine clL [.ret (.lit (.bool false))] ?_; refine zq1 ⟨⟨⟨?_⟩⟩⟩
    refine wlL ?_; refine zq1 ⟨fun ht => ⟨⟨?_⟩⟩⟩
    have uU := Go.AM.uU; refine cRD ?_; apply zN
    refine ⟨?_, ?_⟩
    · rw [eRV]; rfl
    · rw [eRH]
      simp only [MH, LH]
      exact rRL hdT
  rw [decide_eq_true h1] at htask
  rcases find_cases hS o.task with hr | ⟨i, hi, hid, hr⟩
  · have hfc := find L o.task (-1) hr hS.sorted (by omega) m tk (k + 1) hm (by omega) (Γ := Γ)
    refine ⟨L, 0, 6, tk, k, hS, ⟨Fwd.refl L, .inr rfl⟩, hm, ⟨hk, .inl rfl⟩, Nat.le_refl _, ?_⟩
    obtain ⟨RH, eRH⟩ : ∃ x : Heap, x = MH m tk L := ⟨_, rfl⟩; obtain ⟨RV, eRV⟩ : ∃ x : AVal, x = res2 (0) 6 := ⟨_, rfl⟩; refine Tr.mono (Tr_in (k := k) (V := RV) (RH := RH) (by omega) (by rw [eRV]; rfl) (by rw [eRH]; exact MH_lt (by omega) (by omega)) ?_) (fun _ _ _ h => ⟨h.1, h.2.1.trans eRV, h.2.2.trans eRH⟩)
    refine Tr_at Tryz.func32 rfl 103 rfl (Nat.le_of_ble_eq_true rfl) ?_
    simp only [MH, LH]
    have kp : Kp [0,1,3,4,5,6,7,8,9,14,19,22] (fun i => i - k) := kpI
    refine wlL ?_; refine zq1 ⟨⟨⟨?_⟩⟩⟩
    refine clL [.ret (.lit (.bool true))] ?_; refine zq1 ⟨⟨⟨?_⟩⟩⟩
    refine wlL ?_; refine zq1 ⟨fun ht => ⟨⟨?_⟩⟩⟩
    refine clL [.far (.lit (.int .i64 (-1))) (k + 1) [(k, ⟨8, true, [opc o]⟩)] (MH m tk L) (MH m tk L)] ?_; refine zq3 ⟨⟨⟨?_⟩⟩⟩ ⟨⟨⟨?_⟩⟩⟩ ⟨⟨⟨?_⟩⟩⟩
    · intro q; simp only [MH, LH, mrow, opc, List.cons_append, List.nil_append]
    · exact MH_apart (fun i hi => by simp only [AM.look]; repeat (rw [if_neg (by omega)])) rfl
    simp only [MH, LH]
    refine rRL ?_; apply zN
    refine wlL ?_; refine zq1 ⟨fun ht => ⟨⟨?_⟩⟩⟩
    have uU := Go.AM.uU; refine cRD ?_; apply zN
    refine ⟨?_, ?_⟩
    · rw [eRV]; rfl
    · rw [eRH]
      simp only [MH, LH]
      exact rRL hdT
  have hfc := find L o.task i hr hS.sorted (by omega) m tk (k + 1) hm (by omega) (Γ := Γ)
  by_cases hrd : (L.tsk i).ready = true
  · refine ⟨L, 0, 304, tk, k, hS, ⟨Fwd.refl L, .inr rfl⟩, hm, ⟨hk, .inl rfl⟩, Nat.le_refl _, ?_⟩
    obtain ⟨RH, eRH⟩ : ∃ x : Heap, x = MH m tk L := ⟨_, rfl⟩; obtain ⟨RV, eRV⟩ : ∃ x : AVal, x = res2 (0) 304 := ⟨_, rfl⟩; refine Tr.mono (Tr_in (k := k) (V := RV) (RH := RH) (by omega) (by rw [eRV]; rfl) (by rw [eRH]; exact MH_lt (by omega) (by omega)) ?_) (fun _ _ _ h => ⟨h.1, h.2.1.trans eRV, h.2.2.trans eRH⟩)
    refine Tr_at Tryz.func32 rfl 103 rfl (Nat.le_of_ble_eq_true rfl) ?_
    simp only [MH, LH]
    have kp : Kp [0,1,3,4,5,6,7,8,9,14,19,22] (fun i => i - k) := kpI
    refine wlL ?_; refine zq1 ⟨⟨⟨?_⟩⟩⟩
    refine clL [.ret (.lit (.bool true))] ?_; refine zq1 ⟨⟨⟨?_⟩⟩⟩
    refine wlL ?_; refine zq1 ⟨fun ht => ⟨⟨?_⟩⟩⟩
    refine clL [.far (.lit (.int .i64 (i : Int))) (k + 1) [(k, ⟨8, true, [opc o]⟩)] (MH m tk L) (MH m tk L)] ?_; refine zq3 ⟨⟨⟨?_⟩⟩⟩ ⟨⟨⟨?_⟩⟩⟩ ⟨⟨⟨?_⟩⟩⟩
    · intro q; simp only [MH, LH, mrow, opc, List.cons_append, List.nil_append]
    · exact MH_apart (fun i hi => by simp only [AM.look]; repeat (rw [if_neg (by omega)])) rfl
    simp only [MH, LH]
    refine rRL ?_; apply zN
    have uU := @hrd
    refine wlL ?_; refine zq1 ⟨fun ht ht => ⟨⟨?_⟩⟩⟩
    have uU := @hrd; refine cRD ?_; apply zN
    refine ⟨?_, ?_⟩
    · rw [eRV]; rfl
    · rw [eRH]
      simp only [MH, LH]
      exact rRL hdT
  have hrd : (L.tsk i).ready = false := by simpa using hrd
  have hT := hS.tk i hi
  obtain ⟨g, hgr⟩ : ∃ g : Nat, (L.tsk i).group = (g : Int) := ⟨(L.tsk i).group.toNat, by have := hT.g0; omega⟩
  obtain ⟨c, hc⟩ : ∃ c : Nat, (L.tsk i).cpu = (c : Int) := ⟨(L.tsk i).cpu.toNat, by have := hT.c0; omega⟩
  have hg1 : g < L.sl.length := by have := hT.g1; omega
  have hc1 : c < n := by have := hT.c1; omega
  have hrow := hS.rows g hg1
  have hTe := hT.e
  simp only [ent, decide_eq_true_eq] at hTe
  have hsa := hS.sp g c hg1 hc1
  have hmv := woken_ok (s := ⟨(L.tsk i).v, (L.tsk i).r, 0⟩) ⟨hT.e, hT.v0, hT.v1, hT.r0, Int.le_refl _, by show (0 : Int) ≤ 18446744073709551615; omega⟩ hsa.2.2.2.2.1 hsa.2.2.2.2.2 hS.cr0
  obtain ⟨z, ez⟩ : ∃ z, z = wokenZ (L.tsk i).v (L.tsk i).r (L.sp g c).floor L.credit := ⟨_, rfl⟩
  simp only [SpOk] at hmv
  rw [← ez] at hmv
  obtain ⟨T1, eT⟩ : ∃ T1, T1 = ((L.tsk i).run z.1 z.2 (L.tsk i).weight).rdy := ⟨_, rfl⟩
  have hL1 : Rt0 (L.setT i T1) n := by
    rw [eT]
    exact hS.setT hi ⟨hT.id1, hT.id2, hT.g0, hT.g1, hT.c0, hT.c1, hmv.1, hmv.2.1, hmv.2.2.1, hmv.2.2.2.1, hT.m0, hT.m1, hT.m2, hT.m3⟩ rfl (fun d hd _ _ h4 => ⟨rfl, h4⟩)
  obtain ⟨E, eE⟩ : ∃ E, E = emptyF L L.sl.length g c := ⟨_, rfl⟩
  have hE1 : ∀ x, x ∈ E → 0 < x ∧ x < L.sl.length := by rw [eE]; exact emptyF_mem hS hg1
  have hE2 : E.length ≤ g := by rw [eE]; exact emptyF_len hS hg1
  have hemp := empty L n c g hS hc1 hg1 E eE m tk (k + 1) hm (by omega) (Γ := Γ)
  have hwk := hL1.wake hc1 (l := E) hE1
  have hset : ∀ x, ((tlR L).set i x)[i]? = some x := fun x => List.getElem?_set_self (by rw [tlR_len]; exact hi)
  refine ⟨wakeL (L.setT i T1) c E, 0, 0, tk, k, hwk.1, ⟨Fwd.setT.trans hwk.2.1 (.inl (by rw [hwk.2.2])), .inl rfl⟩, hm, ⟨hk, .inl rfl⟩, Nat.le_refl _, ?_⟩
  have hLs : (wakeL (L.setT i T1) c E).sl.length = L.sl.length := hwk.2.1.ns
  have hwc := wake (L.setT i T1) n c hL1 hc1 E hE1 (by omega) m tk (k + 1) (k + 3) hm (by omega) (by omega) (Γ := Γ)
  have hT1 : tkc T1 = [.lit (.int .i64 (L.tsk i).id), .lit (.int .i64 (g : Int)), .lit (.int .i64 (L.tsk i).weight), .lit (.int .i64 (c : Int)), .lit (.int .u64 (L.tsk i).mask), .lit (.bool true), .lit (.int .u64 z.1), .lit (.int .u32 z.2)] := by rw [eT, ← hgr, ← hc]; rfl
  obtain ⟨RH, eRH⟩ : ∃ x : Heap, x = MH m tk (wakeL (L.setT i T1) c E) := ⟨_, rfl⟩; obtain ⟨RV, eRV⟩ : ∃ x : AVal, x = res2 (0) 0 := ⟨_, rfl⟩; refine Tr.mono (Tr_in (k := k) (V := RV) (RH := RH) (by omega) (by rw [eRV]; rfl) (by rw [eRH]; exact MH_lt (by omega) (by omega)) ?_) (fun _ _ _ h => ⟨h.1, h.2.1.trans eRV, h.2.2.trans eRH⟩)
  refine Tr_at Tryz.func32 rfl 103 rfl (Nat.le_of_ble_eq_true rfl) ?_
  simp only [MH, LH]
  have kp : Kp [0,1,3,4,5,6,7,8,9,14,19,22] (fun i => i - k) := kpI
  refine wlL ?_; refine zq1 ⟨⟨⟨?_⟩⟩⟩
  refine clL [.ret (.lit (.bool true))] ?_; refine zq1 ⟨⟨⟨?_⟩⟩⟩
  refine wlL ?_; refine zq1 ⟨fun ht => ⟨⟨?_⟩⟩⟩
  refine clL [.far (.lit (.int .i64 (i : Int))) (k + 1) [(k, ⟨8, true, [opc o]⟩)] (MH m tk L) (MH m tk L)] ?_; refine zq3 ⟨⟨⟨?_⟩⟩⟩ ⟨⟨⟨?_⟩⟩⟩ ⟨⟨⟨?_⟩⟩⟩
  · intro q; simp only [MH, LH, mrow, opc, List.cons_append, List.nil_append]
  · exact MH_apart (fun i hi => by simp only [AM.look]; repeat (rw [if_neg (by omega)])) rfl
  simp only [MH, LH]
  refine rRL ?_; apply zN
  have kp : Kp [0,1,3,4,5,6,7,8,9,14,19,22] (fun i => if k ≤ i then i - k + 1 else 0) := kpI
  have uU := zA @hgr (zA @hc (zA @hrow @hrd))
  refine wlL ?_; refine zq1 ⟨fun ht ht => ⟨⟨?_⟩⟩⟩
  refine S_drw rfl [0,1,3,4,5,6,7,8,9,14,19,22] [.far (accV (k + 1) (gR E)) (k + 2) [(k, ⟨8, true, [opc o]⟩)] (MH m tk L) (accH (k + 1) 1 (gR E) (MH m tk L))] (by kernel_rfl) rfl (fun K hK => ?_); simp -dsimp -implicitDefEqProofs (disch := omega) only [go_sem, nq0, hgr, hc, hrow, hrd, eq_self, ↓reduceIte]; (repeat' (first | (refine And.intro ?_ ?_) | (refine gs_both (fun hb => ?_) (fun hb => ?_) <;> (have hg := hb; (try simp only [nfb] at hg); simp -dsimp -implicitDefEqProofs (disch := omega) only [go_sem, nq0, hgr, hc, hrow, hrd, hb, hg, eq_self, ↓reduceIte]; clear hb; (try simp only [nfe] at hg))))); (all_goals (try omega))
  · intro q; simp only [MH, LH, mrow, opc, List.cons_append, List.nil_append]
  · exact apart_accR (by simp only [AM.look]; rw [if_neg (by omega)]) (MH_apart (fun i hi => by simp only [AM.look]; rw [if_neg (by omega)]) rfl)
  refine hK _ _ _ _ (drawC (by simp only [List.map_cons, List.map_nil, shC, List.isEmpty_cons, List.isEmpty_nil, List.isEmpty_map, MH_ie, isEmpty_app, Bool.and_false]; rfl) (by decide +kernel) (by
    simp only [List.all_cons, List.all_nil, Bool.and_true, Bool.true_and]
    exact callOut_lt (by rw [bdH_acc (by simp only [ltB, decide_eq_true_eq]; omega)]; exact MH_lt (by omega) (by omega)) (MH_lt (by omega) (by omega)))) (fun hx => ?_)
  clear hx hK
  refine rRL ?_; apply zN
  simp only [MH, LH]
  refine rRL ?_; apply zN
  refine wlL ?_; refine zq1 ⟨⟨⟨?_⟩⟩⟩
  refine dlL [.ret (enc (L.tsk i).v (L.tsk i).r (L.tsk i).weight), .ret (.tup [enc z.1 z.2 (L.tsk i).weight, .lit (.int .i64 0)])] ?_; refine zq3 ⟨⟨⟨?_⟩⟩⟩ ⟨⟨⟨?_⟩⟩⟩ ⟨⟨⟨?_⟩⟩⟩
  · exact mentity _ _ _ (by omega) (by omega)
  · rw [ez]
    exact pwoken _ _ _ _ _ hT.e hsa.2.2.2.2.1 hsa.2.2.2.2.2 hS.cr0
  refine wlL ?_; refine zq1 ⟨⟨⟨?_⟩⟩⟩
  refine clL [.gen (.tup []) (k + 3) [(tk, ⟨8, true, tlR L⟩)] [(tk, ⟨8, true, (tlR L).set i (tkc ((L.tsk i).run z.1 z.2 (L.tsk i).weight))⟩)]] ?_; refine zq2 ⟨⟨⟨?_⟩⟩⟩ ⟨⟨⟨?_⟩⟩⟩
  · exact mput (L.tsk i) z.1 z.2 (L.tsk i).weight (tlR L) tk i (tlR_get hi) (by omega) (by omega) (k + 3) (by omega)
  have uU := zA @hgr (zA @hc (zA @hrow (zA @hrd (zA @hset (zA @ssN @Tk.run.eq_1)))))
  refine wlL ?_; refine zq1 ⟨⟨⟨?_⟩⟩⟩
  refine clL [.far (.tup []) (k + 3) [(k + 2, ⟨3, true, [[.lit (.int .u64 z.1), .lit (.int .u32 z.2), .lit (.int .u32 (L.tsk i).weight)]]⟩), (k, ⟨8, true, [opc o]⟩)] (accH (k + 1) 1 (gR E) (MH m tk (L.setT i T1))) (accH (k + 1) 1 (gR E) (MH m tk (wakeL (L.setT i T1) c E)))] ?_; refine zq5 ⟨⟨⟨?_⟩⟩⟩ ⟨⟨⟨?_⟩⟩⟩ ⟨⟨⟨?_⟩⟩⟩ ⟨⟨⟨?_⟩⟩⟩ ⟨⟨⟨?_⟩⟩⟩
  · exact bd_accK (by rw [accIs_self]; trivial)
  · exact accH_keyB MH_keyB
  · intro q
    rw [MH_setT, hT1]
    exact perm_tk2 (by omega) (by omega) (by omega) (by omega) q
  · exact apart_acc (by simp only [AM.look]; repeat rw [if_neg (by omega)]) (MH_apart (fun q hq => by have hLr : (L.setT i T1).sl.length = L.sl.length := rfl; simp only [AM.look]; repeat rw [if_neg (by omega)]) (by rw [hLs]; rfl))
  refine wlL ?_; refine zq1 ⟨⟨⟨?_⟩⟩⟩
  have uU := zA @hgr (zA @hc (zA @hrow (zA @hrd (zA @hset (zA @ssN @Tk.run.eq_1))))); refine cRD ?_; apply zN
  refine ⟨?_, ?_⟩
  · rw [eRV]; rfl
  · rw [eRH]
    simp only [MH, LH]
    exact rRL hdT
end Go.Proofs.T
end
section
namespace Go.Proofs.T
open Go Go.AM Go.Proofs
set_option maxRecDepth 20000
variable {Γ : List (Nat × List AVal)}
def anyB (f : Nat → Bool) : Nat → Bool
  | 0 => false
  | n + 1 => anyB f n || f n
theorem anyB_iff {f : Nat → Bool} : ∀ {n : Nat}, anyB f n = true ↔ ∃ i, i < n ∧ f i = true
  | 0 => by simp [anyB]
  | n + 1 => by
    simp only [anyB, Bool.or_eq_true, anyB_iff]
    constructor
    · rintro (⟨i, h1, h2⟩ | h)
      · exact ⟨i, by omega, h2⟩
      · exact ⟨n, by omega, h⟩
    · rintro ⟨i, h1, h2⟩
      by_cases he : i = n
      · subst he; exact .inr h2
      · exact .inl ⟨i, by omega, h2⟩
def isReady (s : St) (id c : Int) (i : Nat) : Bool := decide ((s.tsk i).id = id) && ((s.tsk i).ready && decide ((s.tsk i).cpu = c))
def bitB (m : Int) (c : Nat) : Bool := decide (m / 2 ^ c % 2 = 1)
end Go.Proofs.T
end
section
namespace Go.Proofs.T
open Go Go.AM Go.Proofs
set_option maxRecDepth 20000
variable {Γ : List (Nat × List AVal)}
def St.cfg (s : St) : List AVal := [.lit (.int .i64 s.cpus), .lit (.int .u64 s.credit), .rd 2 s.ng (gf s)]
attribute [go_sem] St.cfg
structure St.Small (s : St) : Prop where
  ng : s.ng ≤ 1000
  nk : s.nk ≤ 1000
  nu : s.nu ≤ 1000
  nt : s.nt ≤ 1000
  ns : s.ns ≤ 1000
  nsp : ∀ g, g < s.ns → s.nsp g ≤ 1000
end Go.Proofs.T
end
section
namespace Go.Proofs.T
open Go Go.AM Go.Proofs
set_option maxRecDepth 20000
variable {Γ : List (Nat × List AVal)}
def rdep (par : Nat → Int) : Nat → Nat → Nat → Nat
  | 0, _, n => n
  | f + 1, g, n => if g = 0 then n else if par g < 0 ∨ (g : Int) ≤ par g then 5 else rdep par f (par g).toNat (n + 1)
def okW (s : St) (g : Nat) : Bool := decide (1 ≤ s.wt g ∧ s.wt g ≤ 65536)
def okR (s : St) (g : Nat) : Bool := okW s g && decide (rdep s.par 5 g 0 ≤ 4)
def fb (ok : Nat → Bool) : Nat → Option Nat
  | 0 => none
  | n + 1 => match fb ok n with
    | some g => some g
    | none => if n = 0 ∨ ok n = true then none else some n
theorem fb_none {ok : Nat → Bool} : ∀ {n : Nat}, (∀ g, 1 ≤ g → g < n → ok g = true) → fb ok n = none
  | 0, _ => rfl
  | n + 1, h => by
    rw [fb, fb_none (fun g h1 h2 => h g h1 (by omega))]
    by_cases hn : n = 0
    · simp [hn]
    · simp [h n (by omega) (by omega)]
theorem fb_none_iff {ok : Nat → Bool} : ∀ {n : Nat}, fb ok n = none ↔ ∀ g, 1 ≤ g → g < n → ok g = true
  | 0 => ⟨fun _ g _ hg => by omega, fun _ => rfl⟩
  | n + 1 => by
    refine ⟨fun h g h1 h2 => ?_, fb_none⟩
    rw [fb] at h
    cases hf : fb ok n with
    | some x => rw [hf] at h; cases h
    | none =>
      rw [hf] at h
      by_cases he : g = n
      · subst he
        simp only at h
        split at h
        · rename_i hc; rcases hc with hc | hc
          · omega
          · exact hc
        · cases h
      · exact fb_none_iff.1 hf g h1 (by omega)
theorem fb_some {ok : Nat → Bool} {g : Nat} (h1 : 1 ≤ g) (hall : ∀ j, 1 ≤ j → j < g → ok j = true) (hbad : ok g = false) : ∀ {n : Nat}, g < n → fb ok n = some g
  | 0, h => by omega
  | n + 1, h => by
    rw [fb]
    by_cases he : g = n
    · subst he
      rw [fb_none hall]
      simp [hbad]; omega
    · rw [fb_some h1 hall hbad (by omega)]
def refCfg (s : St) : Bool := decide (1 ≤ s.cpus ∧ s.cpus ≤ 64 ∧ s.credit ≤ 1099511627776 ∧ 1 ≤ s.ng ∧ s.ng ≤ 256 ∧ s.par 0 = 0 ∧ s.wt 0 = 1) && (fb (okR s) s.ng).isNone
end Go.Proofs.T
end
section
namespace Go.Proofs.T
open Go Go.AM Go.Proofs
set_option maxRecDepth 20000
variable {Γ : List (Nat × List AVal)}
theorem weighsG (w : Int) : Pure Tryz.prog Γ 128 [.lit (.int .i64 w)] (.lit (.bool (decide (1 ≤ w ∧ w ≤ 65536)))) := by
  refine Pure_at Tryz.func128 rfl 9 rfl (Nat.le_of_ble_eq_true rfl) rfl fun k => ?_
  have kp : Kp [0,2] (fun i => i - k) := kpI
  refine wl ?_; refine zq2 ⟨⟨fun hg => ⟨?_⟩⟩⟩ ⟨⟨fun hg => ⟨?_⟩⟩⟩
  all_goals (refine C_ret rfl ⟨_, rfl, VLe.of_eq ?_⟩; (simp only [AVal.lit.injEq, Value.bool.injEq]; rw [Bool.eq_iff_iff]; simp only [beq_iff_eq, bne_iff_ne, ne_eq, decide_eq_true_eq, decide_eq_false_iff_not, Bool.and_eq_true, Bool.or_eq_true, Bool.not_eq_true', beq_eq_false_iff_ne, Bool.false_eq_true, Bool.true_eq_false, true_iff, false_iff, iff_true, iff_false]; omega))
def pdep (par : Nat → Int) : Nat → Nat → Nat
  | 0, _ => 0
  | f + 1, g => if g = 0 then 0 else pdep par f (par g).toNat + 1
def DepthOk (Γ : List (Nat × List AVal)) : Prop := ∀ (s : St) (n g : Nat), g < n → n ≤ 1000 → (∀ j, 1 ≤ j → j ≤ g → 0 ≤ s.par j ∧ s.par j < j) →
  Pure Tryz.prog Γ 129 [.rd 2 n (gf s), .lit (.int .i64 (g : Int))] (.lit (.int .i64 (pdep s.par g g : Nat)))
def okP (s : St) (g : Nat) : Bool := decide (0 ≤ s.par g ∧ s.par g < g)
def okG (s : St) (g : Nat) : Bool := okP s g && (okW s g && decide (pdep s.par g g ≤ 4))
def chkE (s : St) (g : Nat) : Int := if okP s g = false then 191 else if okW s g = false then 192 else 193
def chk (s : St) : Int × Int :=
  if 256 < s.ng then (-1, 5) else if s.ng = 0 ∨ ¬ (s.par 0 = 0 ∧ s.wt 0 = 1) then (0, 190) else match fb (okG s) s.ng with
    | none => (-1, 0)
    | some g => (g, chkE s g)
theorem groupCheck (hD : DepthOk Γ) (s : St) : Pure Tryz.prog Γ 105 [.rd 2 s.ng (gf s)] (.tup [.lit (.int .i64 (chk s).1), .lit (.int .i64 (chk s).2)]) := by
  refine Pure_at Tryz.func105 rfl 58 rfl (Nat.le_of_ble_eq_true rfl) rfl fun k => ?_
  have kp : Kp [0,2,3,4,5,9,23,26,43,52] (fun i => i - k) := kpI
  refine wl ?_; refine zq4 ⟨fun ht => ⟨⟨?_⟩⟩⟩ ⟨fun ht ht => ⟨fun hg => ⟨?_⟩⟩⟩ ⟨fun ht ht => ⟨fun hg => ⟨?_⟩⟩⟩ ⟨fun ht ht => ⟨fun hg => ⟨?_⟩⟩⟩
  · refine C_ret rfl ⟨_, rfl, VLe.of_eq ?_⟩
    rw [show chk s = (-1, 5) from by rw [chk, if_pos (by omega)]]
  · refine C_ret rfl ⟨_, rfl, VLe.of_eq ?_⟩
    rw [show chk s = (0, 190) from by
      rw [chk, if_neg (by omega), if_pos (.inr (by simpa using ht))]]
  · have hroot : s.par 0 = 0 ∧ s.wt 0 = 1 := by simpa using ht
    have hchk : chk s = match fb (okG s) s.ng with | none => (-1, 0) | some g => ((g : Int), chkE s g) := by
      rw [chk, if_neg (by omega), if_neg (by rintro (h | h); · omega
                                             · exact h hroot)]
    refine M_forO (X := Nat) rfl [0,2,3,4,5,9,23,26,43,52] k (fun i => [(4, .lit (.int .i64 (i : Int)))]) (fun i => []) (fun i => 1 ≤ i ∧ i ≤ s.ng ∧ ∀ g, 1 ≤ g → g < i → okG s g = true) (fun i => s.ng - i) 1 ?_ ⟨by omega, by omega, fun g h1 h2 => by omega⟩ ?_
    · refine rR ?_; apply zN
      exact wkF
    rintro i ⟨hi1, hi, hall⟩
    refine rR ?_; apply zN
    have hok : okG s i = (okP s i && (okW s i && decide (pdep s.par i i ≤ 4))) := rfl
    have hbad : i < s.ng → okG s i = false → chk s = ((i : Int), chkE s i) := fun h1 h2 => by rw [hchk, fb_some hi1 hall h2 h1]
    refine wl ?_; refine zq4 ⟨fun ht ht => ⟨fun hg => ⟨?_⟩⟩⟩ ⟨fun ht ht => ⟨fun hg => ⟨?_⟩⟩⟩ ⟨fun ht ht => ⟨fun hg => ⟨?_⟩⟩⟩ ⟨fun ht => ⟨⟨?_⟩⟩⟩
    · refine C_ret rfl ⟨_, rfl, VLe.of_eq ?_⟩
      have hp : okP s i = false := decide_eq_false (by omega)
      rw [hbad (by omega) (by rw [hok, hp]; rfl), chkE, if_pos hp]
    · have hp : okP s i = true := decide_eq_true (by omega)
      refine cl [.ret (.lit (.bool (okW s i)))] ?_; refine zq2 ⟨⟨⟨?_⟩⟩⟩ ⟨⟨⟨?_⟩⟩⟩
      · exact weighsG (s.wt i)
      refine wl ?_; refine zq2 ⟨fun ht => ⟨⟨?_⟩⟩⟩ ⟨fun ht => ⟨⟨?_⟩⟩⟩
      · refine C_ret rfl ⟨_, rfl, VLe.of_eq ?_⟩
        rw [hbad (by omega) (by rw [hok, ht, hp]; rfl), chkE, if_neg (by rw [hp]; simp), if_pos ht]
      · refine cl [.ret (.lit (.int .i64 (pdep s.par i i : Nat)))] ?_; refine zq2 ⟨⟨⟨?_⟩⟩⟩ ⟨⟨⟨?_⟩⟩⟩
        · refine hD s s.ng i (by omega) (by omega) (fun j h1 h2 => ?_)
          by_cases he : j = i
          · subst he; omega
          · have := hall j h1 (by omega)
            simp only [okG, okP, Bool.and_eq_true, decide_eq_true_eq] at this
            exact this.1
        have hw := ht
        refine wl ?_; refine zq2 ⟨fun ht => ⟨⟨?_⟩⟩⟩ ⟨fun ht => ⟨⟨?_⟩⟩⟩
        · refine C_ret rfl ⟨_, rfl, VLe.of_eq ?_⟩
          rw [hbad (by omega) (by rw [hok, hp, hw, decide_eq_false (by omega)]; rfl), chkE, if_neg (by rw [hp]; simp), if_neg (by rw [hw]; simp)]
        · refine ⟨i + 1, ⟨by omega, by omega, fun g h1 h2 => ?_⟩, by omega, ?_⟩
          · by_cases he : g = i
            · subst he; rw [hok, hp, hw, decide_eq_true (by omega)]; rfl
            · exact hall g h1 (by omega)
          · refine rR ?_; apply zN
            exact wkF
    · refine C_ret rfl ⟨_, rfl, VLe.of_eq ?_⟩
      have hp : okP s i = false := decide_eq_false (by omega)
      rw [hbad (by omega) (by rw [hok, hp]; rfl), chkE, if_pos hp]
    · refine C_ret rfl ⟨_, rfl, VLe.of_eq ?_⟩
      rw [hchk, fb_none (fun g h1 h2 => hall g h1 (by omega))]
  · refine C_ret rfl ⟨_, rfl, VLe.of_eq ?_⟩
    rw [show chk s = (0, 190) from by rw [chk, if_neg (by omega), if_pos (.inl (by omega))]]
theorem groupRight (hD : DepthOk Γ) (s : St) : Pure Tryz.prog Γ 60 [.rd 2 s.ng (gf s)] (.lit (.bool ((chk s).2 == 0))) := by
  refine Pure_at Tryz.func60 rfl 12 rfl (Nat.le_of_ble_eq_true rfl) rfl fun k => ?_
  have kp : Kp [0,2,4] (fun i => i - k) := kpI
  refine wl ?_; refine zq1 ⟨⟨⟨?_⟩⟩⟩
  refine cl [.ret (.tup [.lit (.int .i64 (chk s).1), .lit (.int .i64 (chk s).2)])] ?_; refine zq2 ⟨⟨⟨?_⟩⟩⟩ ⟨⟨⟨?_⟩⟩⟩
  · exact groupCheck hD s
  refine wl ?_; refine zq1 ⟨⟨⟨?_⟩⟩⟩
  refine C_ret rfl ⟨_, rfl, VLe.of_eq ?_⟩
  rfl
def modCfg (s : St) : Bool := decide (1 ≤ s.cpus ∧ s.cpus ≤ 64 ∧ s.credit ≤ 1099511627776) && ((chk s).2 == 0)
theorem rightConfig (hD : DepthOk Γ) (s : St) : Pure Tryz.prog Γ 29 [.agg s.cfg] (.lit (.bool (modCfg s))) := by
  refine Pure_at Tryz.func29 rfl 21 rfl (Nat.le_of_ble_eq_true rfl) rfl fun k => ?_
  have kp : Kp [0,1,2] (fun i => i - k) := kpI
  refine wl ?_; refine zq1 ⟨⟨⟨?_⟩⟩⟩
  refine cl [.ret (.lit (.bool ((chk s).2 == 0)))] ?_; refine zq5 ⟨⟨fun hg hg hg => ⟨?_⟩⟩⟩ ⟨⟨fun hg hg hg => ⟨?_⟩⟩⟩ ⟨⟨fun hg hg hg => ⟨?_⟩⟩⟩ ⟨⟨fun hg hg => ⟨?_⟩⟩⟩ ⟨⟨fun hg => ⟨?_⟩⟩⟩
  · exact groupRight hD s
  all_goals (refine C_ret rfl ⟨_, rfl, VLe.of_eq ?_⟩)
  all_goals (first | (rw [modCfg, decide_eq_true (by omega), Bool.true_and]; done) | (rw [modCfg, decide_eq_false (by omega), Bool.false_and]; done) | (rw [modCfg, decide_eq_false (by omega), decide_eq_false (by omega), Bool.false_and]; done) | trace_state)
end Go.Proofs.T
end
section
namespace Go.Proofs.T
open Go Go.AM Go.Proofs
set_option maxRecDepth 20000
variable {Γ : List (Nat × List AVal)}
def lkRow (F : Nat) (s : St) (l : List Flt) : List AVal := [.lit (.int .i64 s.cpus), .lit (.int .u64 s.credit), .rd 2 s.ng (gf s), .rd 1 s.nk (kf s), .rd 1 s.nu (uf s), .rd 8 s.nt (tf s), .rd 1 s.ns (ssf s), accV F (l.map Flt.row)]
def LK (L F : Nat) (s : St) (l : List Flt) : Heap := (L, ⟨8, false, [lkRow F s l]⟩) :: accH F 3 (l.map Flt.row) []
attribute [go_sem] lkRow LK
def iff1 (b : Bool) (f : Flt) : List Flt := if b = true then [f] else []
theorem found (k L F : Nat) (s : St) (l : List Flt) (is : Bool) (r a b : Int) (hL : L < k) (hF : F < k) (hne : L ≠ F) (hl : l.length ≤ 100000) :
    Tr Tryz.prog Γ 43 k [.ptr L 0 0, .lit (.bool is), .lit (.int .u8 r), .lit (.int .i64 a), .lit (.int .i64 b)] (LK L F s l) (fun k1 r1 H1 => k1 = k + 1 ∧ r1 = .tup [] ∧ H1 = LK L k s (l ++ iff1 is ⟨r, a, b⟩)) := by
  obtain ⟨a1, a2, a3, a4, a5, a6⟩ := old_name hL
  obtain ⟨b1, b2, b3, b4, b5, b6⟩ := old_name hF
  obtain ⟨c1, c2⟩ := two_names hne
  refine Tr_at Tryz.func43 rfl 24 rfl (Nat.le_of_ble_eq_true rfl) (W_upM ?_)
  have kp : Kp [0,1,2,3,4,10] (fun i => i - k) := kpI
  have uU := zA @a1 (zA @a2 (zA @a3 (zA @a4 (zA @a5 (zA @a6 (zA @b1 (zA @b2 (zA @b3 (zA @b4 (zA @b5 (zA @b6 (zA @c1 @c2))))))))))))
  refine wl ?_; refine zq2 ⟨fun ht => ⟨⟨?_⟩⟩⟩ ⟨fun ht => ⟨⟨?_⟩⟩⟩
  · subst ht
    refine ⟨k + 1, [], LK L k s (l ++ [⟨r, a, b⟩]), ?_, _, rfl, rfl, rfl, by simp [iff1, LK, lkRow]⟩
    exact Mv.app (k + 1) (k) ⟨by omega, by omega⟩ ⟨by omega, by omega⟩ (wk_low (by omega) (by simp -dsimp -implicitDefEqProofs only [go_sem, a1, a2, a3, a4, a5, a6, b1, b2, b3, b4, b5, b6, c1, c2, List.map_append, Flt.row, eq_self, ↓reduceIte]) (by simp -dsimp -implicitDefEqProofs only [go_sem, a1, a2, a3, a4, a5, a6, b1, b2, b3, b4, b5, b6, c1, c2, List.map_append, Flt.row, eq_self, ↓reduceIte]) (by simp -dsimp -implicitDefEqProofs only [go_sem, a1, a2, a3, a4, a5, a6, b1, b2, b3, b4, b5, b6, c1, c2, List.map_append, Flt.row, eq_self, ↓reduceIte]) (by simp -dsimp -implicitDefEqProofs only [go_sem, a1, a2, a3, a4, a5, a6, b1, b2, b3, b4, b5, b6, c1, c2, List.map_append, Flt.row, eq_self, ↓reduceIte]))
  · subst ht
    refine ⟨k + 1, [], LK L k s (l ++ []), ?_, _, rfl, rfl, rfl, by simp [iff1, LK, lkRow]⟩
    rw [List.append_nil]
    exact Mv.trans (Mv.fresh (F) (by omega)) (Mv.wk (wk_low (by omega) (by simp -dsimp -implicitDefEqProofs only [go_sem, a1, a2, a3, a4, a5, a6, b1, b2, b3, b4, b5, b6, c1, c2, List.map_append, Flt.row, eq_self, ↓reduceIte]) (by simp -dsimp -implicitDefEqProofs only [go_sem, a1, a2, a3, a4, a5, a6, b1, b2, b3, b4, b5, b6, c1, c2, List.map_append, Flt.row, eq_self, ↓reduceIte]) (by simp -dsimp -implicitDefEqProofs only [go_sem, a1, a2, a3, a4, a5, a6, b1, b2, b3, b4, b5, b6, c1, c2, List.map_append, Flt.row, eq_self, ↓reduceIte]) (by simp -dsimp -implicitDefEqProofs only [go_sem, a1, a2, a3, a4, a5, a6, b1, b2, b3, b4, b5, b6, c1, c2, List.map_append, Flt.row, eq_self, ↓reduceIte])))
theorem found' (k L F : Nat) (s : St) (l l' : List Flt) (is is' : Bool) (r a b : Int) (hb : is = is') (hl' : l' = l ++ iff1 is' ⟨r, a, b⟩) (hL : L < k) (hF : F < k) (hne : L ≠ F) (hl : l.length ≤ 100000) :
    Tr Tryz.prog Γ 43 k [.ptr L 0 0, .lit (.bool is), .lit (.int .u8 r), .lit (.int .i64 a), .lit (.int .i64 b)] (LK L F s l) (fun k1 r1 H1 => k1 = k + 1 ∧ r1 = .tup [] ∧ H1 = LK L k s l') := by
  subst hb hl'; exact found k L F s l is r a b hL hF hne hl
def Adds (Γ : List (Nat × List AVal)) (f : Nat) (s : St) (G : List Flt) : Prop :=
  ∀ (k L F : Nat) (l : List Flt), L < k → F < k → L ≠ F → l.length ≤ 10000 → Tr Tryz.prog Γ f k [.ptr L 0 0] (LK L F s l) (fun k1 r1 H1 => k1 = k + 1 ∧ r1 = .tup [] ∧ H1 = LK L k s (l ++ G))
theorem iff1_len (l : List Flt) (b : Bool) (f : Flt) : (l ++ iff1 b f).length ≤ l.length + 1 := by
  unfold iff1; split <;> simp
def shapeA (s : St) : List Flt := iff1 ((s.nk : Int) != s.cpus) ⟨2, 0, 0⟩ ++ (iff1 ((s.nu : Int) != s.cpus) ⟨2, 1, 0⟩ ++ (iff1 ((s.ns : Int) != s.ng) ⟨2, 2, 0⟩ ++ (if s.ns = s.ng then flats (shapeAt s) s.ns else [])))
theorem shape (s : St) (hs : s.Small) : Adds Γ 45 s (shapeA s) := by
  obtain ⟨hng, hnk, hnu, hnt, hns, hnsp⟩ := id hs
  intro k L F l hL hF hne hl
  obtain ⟨a1, a2, a3, a4, a5, a6⟩ := old_name hL
  obtain ⟨b1, b2, b3, b4, b5, b6⟩ := old_name hF
  obtain ⟨c1, c2⟩ := two_names hne
  refine Tr_at Tryz.func45 rfl 64 rfl (Nat.le_of_ble_eq_true rfl) (W_upM ?_)
  have kp : Kp [0,2,3,4,5,47,49,50,51,52] (fun i => if i = L then 0 else i - k + 1) := kpI
  have uU := zA @a1 (zA @a2 (zA @a3 (zA @a4 (zA @a5 (zA @a6 (zA @b1 (zA @b2 (zA @b3 (zA @b4 (zA @b5 (zA @b6 (zA @c1 @c2))))))))))))
  refine wl ?_; refine zq1 ⟨⟨⟨?_⟩⟩⟩
  obtain ⟨l1, e_l1, h_l1⟩ : ∃ x, x = l ++ iff1 ((s.nk : Int) != s.cpus) ⟨2, 0, 0⟩ ∧ x.length ≤ (l).length + 1 := ⟨_, rfl, iff1_len _ _ _⟩
  refine cl [.gen (.tup []) (k + 2) (LK (L) (F) s (l)) (LK (L) (k + 1) s (l1))] ?_; refine zq2 ⟨⟨⟨?_⟩⟩⟩ ⟨⟨⟨?_⟩⟩⟩
  · exact found' (k + 1) (L) (F) s (l) (l1) _ ((s.nk : Int) != s.cpus) _ _ _ (by first | rfl | (rw [Bool.eq_iff_iff]; simp only [beq_iff_eq, bne_iff_ne, ne_eq, decide_eq_true_eq, decide_eq_false_iff_not, Bool.and_eq_true, Bool.or_eq_true, Bool.not_eq_true', beq_eq_false_iff_ne, Bool.false_eq_true, Bool.true_eq_false, true_iff, false_iff, iff_true, iff_false]; omega) | (simp [hg]; done) | (simp [hg, hq]; done) | (simp_all; done) | (simp_all; omega)) e_l1 (by omega) (by omega) (by omega) (by omega)
  refine wl ?_; refine zq1 ⟨⟨⟨?_⟩⟩⟩
  obtain ⟨l2, e_l2, h_l2⟩ : ∃ x, x = l1 ++ iff1 ((s.nu : Int) != s.cpus) ⟨2, 1, 0⟩ ∧ x.length ≤ (l1).length + 1 := ⟨_, rfl, iff1_len _ _ _⟩
  refine cl [.gen (.tup []) (k + 3) (LK (L) (k + 1) s (l1)) (LK (L) (k + 2) s (l2))] ?_; refine zq2 ⟨⟨⟨?_⟩⟩⟩ ⟨⟨⟨?_⟩⟩⟩
  · exact found' (k + 2) (L) (k + 1) s (l1) (l2) _ ((s.nu : Int) != s.cpus) _ _ _ (by first | rfl | (rw [Bool.eq_iff_iff]; simp only [beq_iff_eq, bne_iff_ne, ne_eq, decide_eq_true_eq, decide_eq_false_iff_not, Bool.and_eq_true, Bool.or_eq_true, Bool.not_eq_true', beq_eq_false_iff_ne, Bool.false_eq_true, Bool.true_eq_false, true_iff, false_iff, iff_true, iff_false]; omega) | (simp [hg]; done) | (simp [hg, hq]; done) | (simp_all; done) | (simp_all; omega)) e_l2 (by omega) (by omega) (by omega) (by omega)
  refine wl ?_; refine zq1 ⟨⟨⟨?_⟩⟩⟩
  obtain ⟨l3, e_l3, h_l3⟩ : ∃ x, x = l2 ++ iff1 ((s.ns : Int) != s.ng) ⟨2, 2, 0⟩ ∧ x.length ≤ (l2).length + 1 := ⟨_, rfl, iff1_len _ _ _⟩
  refine cl [.gen (.tup []) (k + 4) (LK (L) (k + 2) s (l2)) (LK (L) (k + 3) s (l3))] ?_; refine zq2 ⟨⟨⟨?_⟩⟩⟩ ⟨⟨⟨?_⟩⟩⟩
  · exact found' (k + 3) (L) (k + 2) s (l2) (l3) _ ((s.ns : Int) != s.ng) _ _ _ (by first | rfl | (rw [Bool.eq_iff_iff]; simp only [beq_iff_eq, bne_iff_ne, ne_eq, decide_eq_true_eq, decide_eq_false_iff_not, Bool.and_eq_true, Bool.or_eq_true, Bool.not_eq_true', beq_eq_false_iff_ne, Bool.false_eq_true, Bool.true_eq_false, true_iff, false_iff, iff_true, iff_false]; omega) | (simp [hg]; done) | (simp [hg, hq]; done) | (simp_all; done) | (simp_all; omega)) e_l3 (by omega) (by omega) (by omega) (by omega)
  have e3 : l3 = l ++ (iff1 ((s.nk : Int) != s.cpus) ⟨2, 0, 0⟩ ++ (iff1 ((s.nu : Int) != s.cpus) ⟨2, 1, 0⟩ ++ iff1 ((s.ns : Int) != s.ng) ⟨2, 2, 0⟩)) := by rw [e_l3, e_l2, e_l1]; simp
  clear e_l3 e_l2 e_l1
  refine wl ?_; refine zq2 ⟨fun ht => ⟨⟨?_⟩⟩⟩ ⟨fun ht => ⟨⟨?_⟩⟩⟩
  · refine M_forO (X := Nat) rfl [0,2,3,4,5,47,49,50,51,52] (k + 4) (fun i => [(51, .lit (.int .i64 (i : Int)))]) (fun i => (L, ⟨8, false, [lkRow (k + 3) s (l3 ++ flats (shapeAt s) i)]⟩) :: accH (k + 3) 3 ((l3 ++ flats (shapeAt s) i).map Flt.row) [(k, ⟨7, true, [s.cells]⟩)]) (fun i => i ≤ s.ns) (fun i => s.ns - i) 0 ?_ (Nat.zero_le _) ?_
    · rw [flats_zero, List.append_nil]
      refine rR ?_; apply zN
      (have uU := zA @a1 (zA @a2 (zA @a3 (zA @a4 (zA @a5 (zA @a6 (zA @b1 (zA @b2 (zA @b3 (zA @b4 (zA @b5 (zA @b6 (zA @c1 @c2)))))))))))); exact wkU)
    intro i hi
    have hfl := flats_len (shapeAt_len s) i
    obtain ⟨l4, e4, h4⟩ : ∃ x, x = l3 ++ flats (shapeAt s) i ∧ x.length ≤ l3.length + i := ⟨_, rfl, by simp; omega⟩
    rw [← e4]
    refine rR ?_; apply zN
    refine wl ?_; refine zq2 ⟨fun ht => ⟨⟨?_⟩⟩⟩ ⟨fun ht => ⟨⟨?_⟩⟩⟩
    · obtain ⟨l5, e_l5, h_l5⟩ : ∃ x, x = l4 ++ iff1 (((s.nsp i : Nat) : Int) != s.cpus) ⟨2, 3, (i : Int)⟩ ∧ x.length ≤ (l4).length + 1 := ⟨_, rfl, iff1_len _ _ _⟩
      refine cl [.gen (.tup []) (k + 5) (LK (L) (k + 3) s (l4)) (LK (L) (k + 4) s (l5))] ?_; refine zq2 ⟨⟨⟨?_⟩⟩⟩ ⟨⟨⟨?_⟩⟩⟩
      · exact found' (k + 4) (L) (k + 3) s (l4) (l5) _ (((s.nsp i : Nat) : Int) != s.cpus) _ _ _ (by first | rfl | (rw [Bool.eq_iff_iff]; simp only [beq_iff_eq, bne_iff_ne, ne_eq, decide_eq_true_eq, decide_eq_false_iff_not, Bool.and_eq_true, Bool.or_eq_true, Bool.not_eq_true', beq_eq_false_iff_ne, Bool.false_eq_true, Bool.true_eq_false, true_iff, false_iff, iff_true, iff_false]; omega) | (simp [hg]; done) | (simp [hg, hq]; done) | (simp_all; done) | (simp_all; omega)) e_l5 (by omega) (by omega) (by omega) (by omega)
      refine wl ?_; refine zq1 ⟨⟨⟨?_⟩⟩⟩
      refine ⟨i + 1, by omega, by omega, ?_⟩
      rw [show l3 ++ flats (shapeAt s) (i + 1) = l5 by
        rw [flats_succ, ← List.append_assoc, ← e4, e_l5, shapeAt, iff1]
        congr 1
        by_cases hc : ((s.nsp i : Nat) : Int) = s.cpus <;> simp [hc]]
      refine rR ?_; apply zN
      exact Mv.app (k + 4) (k + 3) ⟨by omega, by omega⟩ ⟨by omega, by omega⟩ (wk_low (by omega) (by simp -dsimp -implicitDefEqProofs only [go_sem, a1, a2, a3, a4, a5, a6, b1, b2, b3, b4, b5, b6, c1, c2, List.map_append, Flt.row, eq_self, ↓reduceIte]) (by simp -dsimp -implicitDefEqProofs only [go_sem, a1, a2, a3, a4, a5, a6, b1, b2, b3, b4, b5, b6, c1, c2, List.map_append, Flt.row, eq_self, ↓reduceIte]) (by simp -dsimp -implicitDefEqProofs only [go_sem, a1, a2, a3, a4, a5, a6, b1, b2, b3, b4, b5, b6, c1, c2, List.map_append, Flt.row, eq_self, ↓reduceIte]) (by simp -dsimp -implicitDefEqProofs only [go_sem, a1, a2, a3, a4, a5, a6, b1, b2, b3, b4, b5, b6, c1, c2, List.map_append, Flt.row, eq_self, ↓reduceIte]))
    · have hi' : i = s.ns := by omega
      have he : l4 = l ++ shapeA s := by
        rw [e4, e3, shapeA, if_pos (by omega), hi']
        simp
      refine ⟨k + 1, [], LK L k s l4, ?_, _, rfl, rfl, rfl, by rw [he]; rfl⟩
      exact Mv.app (k + 3) (k) ⟨by omega, by omega⟩ ⟨by omega, by omega⟩ (wk_low (by omega) (by simp -dsimp -implicitDefEqProofs only [go_sem, a1, a2, a3, a4, a5, a6, b1, b2, b3, b4, b5, b6, c1, c2, List.map_append, Flt.row, eq_self, ↓reduceIte]) (by simp -dsimp -implicitDefEqProofs only [go_sem, a1, a2, a3, a4, a5, a6, b1, b2, b3, b4, b5, b6, c1, c2, List.map_append, Flt.row, eq_self, ↓reduceIte]) (by simp -dsimp -implicitDefEqProofs only [go_sem, a1, a2, a3, a4, a5, a6, b1, b2, b3, b4, b5, b6, c1, c2, List.map_append, Flt.row, eq_self, ↓reduceIte]) (by simp -dsimp -implicitDefEqProofs only [go_sem, a1, a2, a3, a4, a5, a6, b1, b2, b3, b4, b5, b6, c1, c2, List.map_append, Flt.row, eq_self, ↓reduceIte]))
  · have he : l3 = l ++ shapeA s := by
      rw [e3, shapeA, if_neg (by omega)]
      simp
    refine ⟨k + 1, [], LK L k s l3, ?_, _, rfl, rfl, rfl, by rw [he]; rfl⟩
    exact Mv.app (k + 3) (k) ⟨by omega, by omega⟩ ⟨by omega, by omega⟩ (wk_low (by omega) (by simp -dsimp -implicitDefEqProofs only [go_sem, a1, a2, a3, a4, a5, a6, b1, b2, b3, b4, b5, b6, c1, c2, List.map_append, Flt.row, eq_self, ↓reduceIte]) (by simp -dsimp -implicitDefEqProofs only [go_sem, a1, a2, a3, a4, a5, a6, b1, b2, b3, b4, b5, b6, c1, c2, List.map_append, Flt.row, eq_self, ↓reduceIte]) (by simp -dsimp -implicitDefEqProofs only [go_sem, a1, a2, a3, a4, a5, a6, b1, b2, b3, b4, b5, b6, c1, c2, List.map_append, Flt.row, eq_self, ↓reduceIte]) (by simp -dsimp -implicitDefEqProofs only [go_sem, a1, a2, a3, a4, a5, a6, b1, b2, b3, b4, b5, b6, c1, c2, List.map_append, Flt.row, eq_self, ↓reduceIte]))
theorem clo1 (s : St) (i : Nat) (now c : Int) : Pure Tryz.prog Γ 87 [.agg (tf s i), .rp [.lit (.int .i64 now)], .rp [.lit (.int .i64 c)]] (.lit (.bool (isReady s now c i))) := by
  refine Pure_at Tryz.func87 rfl 19 rfl (Nat.le_of_ble_eq_true rfl) rfl fun k => ?_
  have kp : Kp [0,1,2,3,4] (fun i => i - k) := kpI
  refine wl ?_; refine zq3 ⟨⟨fun hg hg => ⟨?_⟩⟩⟩ ⟨⟨fun hg hg => ⟨?_⟩⟩⟩ ⟨⟨fun hg => ⟨?_⟩⟩⟩
  all_goals (refine C_ret rfl ⟨_, rfl, VLe.of_eq ?_⟩)
  all_goals (congr 2; rw [Bool.eq_iff_iff]; simp_all [isReady])
def f0 (f : Nat → Bool) : Nat → Option Nat
  | 0 => none
  | n + 1 => match f0 f n with
    | some i => some i
    | none => if f n = true then some n else none
theorem f0_none {f : Nat → Bool} : ∀ {n : Nat}, (∀ i, i < n → f i = false) → f0 f n = none
  | 0, _ => rfl
  | n + 1, h => by rw [f0, f0_none (fun i hi => h i (by omega))]; simp [h n (by omega)]
theorem f0_some {f : Nat → Bool} {i : Nat} (hall : ∀ j, j < i → f j = false) (hi : f i = true) : ∀ {n : Nat}, i < n → f0 f n = some i
  | 0, h => by omega
  | n + 1, h => by
    rw [f0]
    by_cases he : i = n
    · subst he; rw [f0_none hall]; simp [hi]
    · rw [f0_some hall hi (by omega)]
def idx (f : Nat → Bool) (n : Nat) : Int := match f0 f n with | some i => (i : Int) | none => -1
theorem idx_any (f : Nat → Bool) (n : Nat) : decide (0 ≤ idx f n) = anyB f n := by
  have key : ∀ n, (f0 f n).isSome = anyB f n := by
    intro n
    induction n with
    | zero => rfl
    | succ n ih =>
      rw [anyB, ← ih, f0]
      cases f0 f n with
      | some i => rfl
      | none => cases f n <;> rfl
  rw [← key, idx]
  cases f0 f n <;> simp
theorem indexFunc (s : St) (n : Nat) (now c : Int) (hn : n ≤ 1000) : Pure Tryz.prog Γ 72 [.rd 8 n (tf s), .fn 87 [.rp [.lit (.int .i64 now)], .rp [.lit (.int .i64 c)]]] (.lit (.int .i64 (idx (isReady s now c) n))) := by
  refine Pure_at Tryz.func72 rfl 19 rfl (Nat.le_of_ble_eq_true rfl) rfl fun k => ?_
  have kp : Kp [0,1,4,5,7,8,9,16] (fun i => i - k) := kpI
  refine wl ?_; refine zq1 ⟨⟨⟨?_⟩⟩⟩
  refine M_forO (X := Nat) rfl [0,1,4,5,7,8,9,16] k (fun i => [(8, .lit (.int .i64 (i : Int)))]) (fun i => []) (fun i => i ≤ n ∧ ∀ j, j < i → isReady s now c j = false) (fun i => n - i) 0 ?_ ⟨Nat.zero_le _, fun j hj => absurd hj (Nat.not_lt_zero _)⟩ ?_
  · refine rR ?_; apply zN
    exact wkF
  rintro i ⟨hi, hall⟩
  refine rR ?_; apply zN
  refine wl ?_; refine zq2 ⟨fun ht => ⟨⟨?_⟩⟩⟩ ⟨fun ht => ⟨⟨?_⟩⟩⟩
  · refine cl [.ret (.lit (.bool (isReady s now c i)))] ?_; refine zq2 ⟨⟨⟨?_⟩⟩⟩ ⟨⟨⟨?_⟩⟩⟩
    · exact clo1 s i now c
    refine wl ?_; refine zq2 ⟨fun ht => ⟨⟨?_⟩⟩⟩ ⟨fun ht => ⟨⟨?_⟩⟩⟩
    · refine C_ret rfl ⟨_, rfl, VLe.of_eq ?_⟩
      rw [idx, f0_some hall ht (by omega)]
    · refine ⟨i + 1, ⟨by omega, fun j hj => ?_⟩, by omega, ?_⟩
      · by_cases he : j = i
        · subst he; exact ht
        · exact hall j (by omega)
      · refine rR ?_; apply zN
        exact wkF
  · refine C_ret rfl ⟨_, rfl, VLe.of_eq ?_⟩
    rw [idx, f0_none (fun j hj => hall j (by omega))]
theorem containsFunc (s : St) (n : Nat) (now c : Int) (hn : n ≤ 1000) : Pure Tryz.prog Γ 88 [.rd 8 n (tf s), .fn 87 [.rp [.lit (.int .i64 now)], .rp [.lit (.int .i64 c)]]] (.lit (.bool (anyB (isReady s now c) n))) := by
  refine Pure_at Tryz.func88 rfl 9 rfl (Nat.le_of_ble_eq_true rfl) rfl fun k => ?_
  have kp : Kp [0,1,4] (fun i => i - k) := kpI
  refine wl ?_; refine zq1 ⟨⟨⟨?_⟩⟩⟩
  refine cl [.ret (.lit (.int .i64 (idx (isReady s now c) n)))] ?_; refine zq2 ⟨⟨⟨?_⟩⟩⟩ ⟨⟨⟨?_⟩⟩⟩
  · exact indexFunc s n now c hn
  refine C_ret rfl ⟨_, rfl, VLe.of_eq ?_⟩
  rw [idx_any]
end Go.Proofs.T
end
section
namespace Go.Proofs.T
open Go Go.AM Go.Proofs
set_option maxRecDepth 20000
variable {Γ : List (Nat × List AVal)}
def clockAt (s : St) (c : Nat) : List Flt := iff1 (decide (s.clk c < 0 ∨ 281474976710656 < s.clk c)) ⟨3, (c : Int), 0⟩
theorem iff1_len1 (b : Bool) (f : Flt) : (iff1 b f).length ≤ 1 := by unfold iff1; split <;> simp
def curAt (s : St) (c : Nat) : List Flt := iff1 (decide (s.cur c ≠ 0) && !(anyB (isReady s (s.cur c) c) s.nt)) ⟨13, (c : Int), 0⟩
def clocksA (s : St) : List Flt := flats (clockAt s) s.nk ++ flats (curAt s) s.nu
theorem clocks (s : St) (hs : s.Small) : Adds Γ 46 s (clocksA s) := by
  obtain ⟨hng, hnk, hnu, hnt, hns, hnsp⟩ := id hs
  intro k L F l hL hF hne hl
  obtain ⟨a1, a2, a3, a4, a5, a6⟩ := old_name hL
  obtain ⟨b1, b2, b3, b4, b5, b6⟩ := old_name hF
  obtain ⟨c1, c2⟩ := two_names hne
  refine Tr_at Tryz.func46 rfl 56 rfl (Nat.le_of_ble_eq_true rfl) (W_upM ?_)
  refine W_mv (Mv.fresh F (by omega)) ?_
  have uU := zA @a1 (zA @a2 (zA @a3 (zA @a4 (zA @a5 (zA @a6 (zA @b1 (zA @b2 (zA @b3 (zA @b4 (zA @b5 (zA @b6 (zA @c1 @c2))))))))))))
  refine rR ?_; apply zN
  refine C_seq rfl ?_
  refine C_seq rfl ?_
  have kp : Kp [0,2,3,4,5,6,11,12,13,14,32,33,34,35] (fun i => if i = L then 0 else i - k + 1) := kpI
  refine wl ?_; refine zq1 ⟨⟨⟨?_⟩⟩⟩
  refine M_forO (X := Nat) rfl [0,2,3,4,5,6,11,12,13,14,32,33,34,35] (k + 1) (fun i => [(13, .lit (.int .i64 (i : Int)))]) (fun i => LK L k s (l ++ flats (clockAt s) i)) (fun i => i ≤ s.nk) (fun i => s.nk - i) 0 ?_ (Nat.zero_le _) ?_
  · rw [flats_zero, List.append_nil]
    refine rR ?_; apply zN
    (have uU := zA @a1 (zA @a2 (zA @a3 (zA @a4 (zA @a5 (zA @a6 (zA @b1 (zA @b2 (zA @b3 (zA @b4 (zA @b5 (zA @b6 (zA @c1 @c2)))))))))))); exact wkU)
  · intro i hi
    have hfl := flats_len (fun c => iff1_len1 _ _) (f := clockAt s) i
    obtain ⟨l4, e4, h4⟩ : ∃ x, x = l ++ flats (clockAt s) i ∧ x.length ≤ l.length + i := ⟨_, rfl, by simp; omega⟩
    rw [← e4]
    refine rR ?_; apply zN
    refine wl ?_; refine zq2 ⟨fun ht => ⟨⟨?_⟩⟩⟩ ⟨fun ht => ⟨⟨?_⟩⟩⟩
    · obtain ⟨l5, e_l5, h_l5⟩ : ∃ x, x = l4 ++ iff1 (decide (s.clk i < 0 ∨ 281474976710656 < s.clk i)) ⟨3, (i : Int), 0⟩ ∧ x.length ≤ (l4).length + 1 := ⟨_, rfl, iff1_len _ _ _⟩
      refine M_cutO [0,2,3,4,5,6,11,12,13,14,32,33,34,35] (k + 2) [] ((L, ⟨8, false, [lkRow (k + 1) s (l5)]⟩) :: accH (k + 1) 3 ((l5).map Flt.row) []) ?_ ?_
      · refine cl [.gen (.tup []) (k + 2) (LK (L) (k) s (l4)) (LK (L) (k + 1) s (l5))] ?_; refine zq4 ⟨⟨fun hg => ⟨?_⟩⟩⟩ ⟨⟨fun hg => ⟨?_⟩⟩⟩ ⟨⟨fun hg => ⟨?_⟩⟩⟩ ⟨⟨fun hg => ⟨?_⟩⟩⟩
        all_goals (first | (exact found' (k + 1) (L) (k) s (l4) (l5) _ (decide (s.clk i < 0 ∨ 281474976710656 < s.clk i)) _ _ _ (by first | rfl | (rw [Bool.eq_iff_iff]; simp only [beq_iff_eq, bne_iff_ne, ne_eq, decide_eq_true_eq, decide_eq_false_iff_not, Bool.and_eq_true, Bool.or_eq_true, Bool.not_eq_true', beq_eq_false_iff_ne, Bool.false_eq_true, Bool.true_eq_false, true_iff, false_iff, iff_true, iff_false]; omega) | (simp [hg]; done) | (simp [hg, hq]; done) | (simp_all; done) | (simp_all; omega)) e_l5 (by omega) (by omega) (by omega) (by omega)) | ((have uU := zA @a1 (zA @a2 (zA @a3 (zA @a4 (zA @a5 (zA @a6 (zA @b1 (zA @b2 (zA @b3 (zA @b4 (zA @b5 (zA @b6 (zA @c1 @c2)))))))))))); exact wkU)))
      refine rR ?_; apply zN
      refine wl ?_; refine zq1 ⟨⟨⟨?_⟩⟩⟩
      refine ⟨i + 1, by omega, by omega, ?_⟩
      rw [show l ++ flats (clockAt s) (i + 1) = l5 by rw [flats_succ, ← List.append_assoc, ← e4, e_l5]; rfl]
      refine rR ?_; apply zN
      exact Mv.app (k + 1) (k) ⟨by omega, by omega⟩ ⟨by omega, by omega⟩ (wk_low (by omega) (by simp -dsimp -implicitDefEqProofs only [go_sem, a1, a2, a3, a4, a5, a6, b1, b2, b3, b4, b5, b6, c1, c2, List.map_append, Flt.row, eq_self, ↓reduceIte]) (by simp -dsimp -implicitDefEqProofs only [go_sem, a1, a2, a3, a4, a5, a6, b1, b2, b3, b4, b5, b6, c1, c2, List.map_append, Flt.row, eq_self, ↓reduceIte]) (by simp -dsimp -implicitDefEqProofs only [go_sem, a1, a2, a3, a4, a5, a6, b1, b2, b3, b4, b5, b6, c1, c2, List.map_append, Flt.row, eq_self, ↓reduceIte]) (by simp -dsimp -implicitDefEqProofs only [go_sem, a1, a2, a3, a4, a5, a6, b1, b2, b3, b4, b5, b6, c1, c2, List.map_append, Flt.row, eq_self, ↓reduceIte]))
    · have hi' : i = s.nk := by omega
      subst hi'
      have h4' : l4.length ≤ 11000 := by omega
      refine M_forO (X := Nat) rfl [0,2,3,4,5,6,11,12,13,14,32,33,34,35] (k + 1) (fun i => [(34, .lit (.int .i64 (i : Int)))]) (fun i => LK L k s (l4 ++ flats (curAt s) i)) (fun i => i ≤ s.nu) (fun i => s.nu - i) 0 ?_ (Nat.zero_le _) ?_
      · rw [flats_zero, List.append_nil]
        refine rR ?_; apply zN
        (have uU := zA @a1 (zA @a2 (zA @a3 (zA @a4 (zA @a5 (zA @a6 (zA @b1 (zA @b2 (zA @b3 (zA @b4 (zA @b5 (zA @b6 (zA @c1 @c2)))))))))))); exact wkU)
      intro i hi
      have hfl := flats_len (fun c => iff1_len1 _ _) (f := curAt s) i
      obtain ⟨l6, e6, h6⟩ : ∃ x, x = l4 ++ flats (curAt s) i ∧ x.length ≤ l4.length + i := ⟨_, rfl, by simp; omega⟩
      rw [← e6]
      refine rR ?_; apply zN
      refine wl ?_; refine zq2 ⟨fun ht => ⟨⟨?_⟩⟩⟩ ⟨fun ht => ⟨⟨?_⟩⟩⟩
      · refine W_mv (Mv.freeze (k + 1) (by simp -dsimp -implicitDefEqProofs only [go_sem, a1, a2, a3, a4, a5, a6, b1, b2, b3, b4, b5, b6, c1, c2, eq_self, ↓reduceIte]; rfl) rfl) ?_; simp -dsimp -implicitDefEqProofs only [frzF, frz_app, go_sem, a1, a2, a3, a4, a5, a6, b1, b2, b3, b4, b5, b6, c1, c2, eq_self, ↓reduceIte]
        refine W_mv (Mv.freeze (k + 2) (by simp -dsimp -implicitDefEqProofs only [go_sem, a1, a2, a3, a4, a5, a6, b1, b2, b3, b4, b5, b6, c1, c2, eq_self, ↓reduceIte]; rfl) rfl) ?_; simp -dsimp -implicitDefEqProofs only [frzF, frz_app, go_sem, a1, a2, a3, a4, a5, a6, b1, b2, b3, b4, b5, b6, c1, c2, eq_self, ↓reduceIte]
        obtain ⟨l7, e_l7, h_l7⟩ : ∃ x, x = l6 ++ iff1 (decide (s.cur i ≠ 0) && !(anyB (isReady s (s.cur i) i) s.nt)) ⟨13, (i : Int), 0⟩ ∧ x.length ≤ (l6).length + 1 := ⟨_, rfl, iff1_len _ _ _⟩
        refine M_cutO [0,2,3,4,5,6,11,12,13,14,32,33,34,35] (k + 4) [] ((L, ⟨8, false, [lkRow (k + 3) s (l7)]⟩) :: accH (k + 3) 3 ((l7).map Flt.row) []) ?_ ?_
        · refine dl [.ret (.lit (.bool (anyB (isReady s (s.cur i) i) s.nt))), .gen (.tup []) (k + 4) (LK (L) (k) s (l6)) (LK (L) (k + 3) s (l7))] ?_; refine zq5 ⟨⟨fun hg => ⟨?_⟩⟩⟩ ⟨⟨fun hg => ⟨?_⟩⟩⟩ ⟨⟨fun hg => ⟨?_⟩⟩⟩ ⟨⟨fun hg => ⟨?_⟩⟩⟩ ⟨⟨fun hg => ⟨?_⟩⟩⟩
          all_goals (first | (exact found' (k + 3) (L) (k) s (l6) (l7) _ (decide (s.cur i ≠ 0) && !(anyB (isReady s (s.cur i) i) s.nt)) _ _ _ (by first | rfl | (rw [Bool.eq_iff_iff]; simp only [beq_iff_eq, bne_iff_ne, ne_eq, decide_eq_true_eq, decide_eq_false_iff_not, Bool.and_eq_true, Bool.or_eq_true, Bool.not_eq_true', beq_eq_false_iff_ne, Bool.false_eq_true, Bool.true_eq_false, true_iff, false_iff, iff_true, iff_false]; omega) | (simp [hg]; done) | (simp [hg, hq]; done) | (simp_all; done) | (simp_all; omega)) e_l7 (by omega) (by omega) (by omega) (by omega)) | (exact containsFunc s s.nt (s.cur i) i hnt) | ((have uU := zA @a1 (zA @a2 (zA @a3 (zA @a4 (zA @a5 (zA @a6 (zA @b1 (zA @b2 (zA @b3 (zA @b4 (zA @b5 (zA @b6 (zA @c1 @c2)))))))))))); exact wkU)))
        refine rR ?_; apply zN
        refine wl ?_; refine zq1 ⟨⟨⟨?_⟩⟩⟩
        refine ⟨i + 1, by omega, by omega, ?_⟩
        rw [show l4 ++ flats (curAt s) (i + 1) = l7 by rw [flats_succ, ← List.append_assoc, ← e6, e_l7]; rfl]
        refine rR ?_; apply zN
        exact Mv.app (k + 3) (k) ⟨by omega, by omega⟩ ⟨by omega, by omega⟩ (wk_low (by omega) (by simp -dsimp -implicitDefEqProofs only [go_sem, a1, a2, a3, a4, a5, a6, b1, b2, b3, b4, b5, b6, c1, c2, List.map_append, Flt.row, eq_self, ↓reduceIte]) (by simp -dsimp -implicitDefEqProofs only [go_sem, a1, a2, a3, a4, a5, a6, b1, b2, b3, b4, b5, b6, c1, c2, List.map_append, Flt.row, eq_self, ↓reduceIte]) (by simp -dsimp -implicitDefEqProofs only [go_sem, a1, a2, a3, a4, a5, a6, b1, b2, b3, b4, b5, b6, c1, c2, List.map_append, Flt.row, eq_self, ↓reduceIte]) (by simp -dsimp -implicitDefEqProofs only [go_sem, a1, a2, a3, a4, a5, a6, b1, b2, b3, b4, b5, b6, c1, c2, List.map_append, Flt.row, eq_self, ↓reduceIte]))
      · have hi' : i = s.nu := by omega
        subst hi'
        have he : l6 = l ++ clocksA s := by rw [e6, e4, clocksA]; simp
        refine ⟨k + 1, [], LK L k s l6, ?_, _, rfl, rfl, rfl, by rw [he]; rfl⟩
        (have uU := zA @a1 (zA @a2 (zA @a3 (zA @a4 (zA @a5 (zA @a6 (zA @b1 (zA @b2 (zA @b3 (zA @b4 (zA @b5 (zA @b6 (zA @c1 @c2)))))))))))); exact wkU)
end Go.Proofs.T
end
