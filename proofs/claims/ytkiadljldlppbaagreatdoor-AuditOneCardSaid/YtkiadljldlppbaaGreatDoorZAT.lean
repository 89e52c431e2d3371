import Derived.Test.YtkiadljldlppbaaGreatDoorZAS
set_option linter.unusedVariables false
set_option linter.unusedSimpArgs false
section
namespace Go.AM
open Go
section
variable {P : Program} {Γ : List (Nat × List AVal)}
theorem Pure_of0 {f : FuncId} {args : List AVal} {r : AVal} (ha : args.all (bd fun _ => false) = true) (hr : bd (fun _ => false) r = true) (hT : Tr P Γ f 0 args [] (fun _ r1 _ => VLe r1 r)) : Pure P Γ f args r := fun k => by
  intro A hA w G ρ cargs hr0 hvs
  have hρ : ρ = noNames := funext fun id => hr0.dom id rfl
  subst hρ
  have hno : ∀ w1 G1 ρ1 A1 A2 u cu, V w1 G1 ρ1 A1 u cu → bd (fun _ => false) u = true → V w1 G1 ρ1 A2 u cu := fun w1 G1 ρ1 A1 A2 u cu h hb =>
    (V_bd h hb).mono (fun _ h => h) (fun _ _ => rfl) (fun _ _ => rfl) (fun i hi => by simp at hi) (fun _ _ => .inr rfl)
  refine (hT noAllow (fun i hi => hi.elim) w G noNames cargs ⟨fun _ _ => rfl, fun id B A' hid => by simp [ofHeap, look] at hid, hr0.inj, hr0.ro, hr0.glob⟩ ⟨hvs.1, fun j u hj => hno _ _ _ _ _ _ _ (hvs.2 j u hj) (all_get ha hj)⟩).mono ?_
  rintro e w' ⟨cv, G', ρ', k1, r1, H1, rfl, hle, hk1, hrel1, hv1, hst⟩
  refine ⟨cv, fun b => G' b ∨ owned ρ' b, noNames, k, r, [], rfl, ⟨rfl, rfl, rfl⟩, Nat.le_refl _, hrel1.fz, ?_, ⟨hst.size, hst.keep, hst.shape, fun b hb => .inl (hst.g b hb), fun b hb => hb.elim (hst.g' b) (fun h => .inr (hst.own b h)), fun b ⟨_, _, h⟩ => (by cases h), fun id _ => .inl rfl, hst.os, hst.tape, hst.output⟩⟩
  exact (V_bd (hle _ _ _ _ _ hv1) hr).mono (fun _ h => .inl h) (fun _ _ => rfl) (fun _ _ => rfl) (fun i hi => by simp at hi) (fun i hi => by simp at hi)
end
end Go.AM
namespace Go.Proofs.T
open Go Go.AM Go.Proofs
set_option maxRecDepth 20000
variable {Γ : List (Nat × List AVal)}
structure Did (Γ : List (Nat × List AVal)) (n ns m T k i : Nat) (o : Opn) (L : LSt) (z : LSt × (Int × Int) × (Nat × Nat)) : Prop where
  rt : Rt z.1 n
  nt : z.1.tl.length ≤ i + 1
  nsl : z.1.sl.length = ns
  lat : Later L z.1
  tk : m + 6 + ns ≤ z.2.2.1
  tk2 : z.2.2.1 < z.2.2.2
  tk3 : z.2.2.1 = T ∨ k ≤ z.2.2.1
  kk : k ≤ z.2.2.2
  tr : Tr Tryz.prog Γ 14 k [.ptr m 0 0, .agg (opc o)] (MH m T L) (fun k1 r1 H1 => k1 = z.2.2.2 ∧ r1 = res2 z.2.1.1 z.2.1.2 ∧ H1 = MH m z.2.2.1 z.1)
structure Runs (Γ : List (Nat × List AVal)) (n ns m T k : Nat) (o : Nat → Opn) (L0 : LSt) (Ls : Nat → LSt) (zs : Nat → LSt × (Int × Int) × (Nat × Nat)) : Prop where
  z : Ls 0 = L0
  s : ∀ i, Ls (i + 1) = (zs i).1
  rt : ∀ i, i ≤ 900 → Rt (Ls i) n ∧ (Ls i).tl.length ≤ i ∧ (Ls i).sl.length = ns
  did : ∀ i, i < 900 → Did Γ n ns m T k i (o i) (Ls i) (zs i)
theorem runs_ex (Γ : List (Nat × List AVal)) {L0 : LSt} {n : Nat} (h : Rt L0 n) (h0 : L0.tl = []) (o : Nat → Opn) (ho : ∀ i, OpnOk (o i)) (m T k : Nat) (hm : m + 6 + L0.sl.length ≤ T) (hk : T < k) : ∃ Ls zs, Runs Γ n L0.sl.length m T k o L0 Ls zs := by
  obtain ⟨ns, ens⟩ : ∃ ns, ns = L0.sl.length := ⟨_, rfl⟩
  rw [← ens] at hm ⊢
  have step : ∀ x : Nat × LSt, ∃ z, (x.1 < 900 → Rt x.2 n → x.2.tl.length ≤ x.1 → x.2.sl.length = ns → Did Γ n ns m T k x.1 (o x.1) x.2 z) := by
    rintro ⟨i, L⟩
    by_cases hc : i < 900 ∧ Rt L n ∧ L.tl.length ≤ i ∧ L.sl.length = ns
    · obtain ⟨h1, h2, h3, h4⟩ := hc
      obtain ⟨L', a, e, tk', k', r1, r2, r3, r4, r5, r6, r7, r8⟩ := mdo L n h2 (o i) (by omega) (ho i) m T k (by omega) hk (Γ := Γ)
      exact ⟨(L', (a, e), (tk', k')), fun _ _ _ _ => ⟨r1, by show L'.tl.length ≤ i + 1; omega, by show L'.sl.length = ns; rw [r2.ns, h4], r2, by show m + 6 + ns ≤ tk'; omega, r5, r6, r7, r8⟩⟩
    · exact ⟨(L, (0, 0), (0, 0)), fun h1 h2 h3 h4 => absurd ⟨h1, h2, h3, h4⟩ hc⟩
  obtain ⟨F, hF⟩ := Classical.axiomOfChoice step
  let Ls : Nat → LSt := fun i => Nat.rec L0 (fun i L => (F (i, L)).1) i
  have hs : ∀ i, Ls (i + 1) = (F (i, Ls i)).1 := fun i => rfl
  have hrt : ∀ i, i ≤ 900 → Rt (Ls i) n ∧ (Ls i).tl.length ≤ i ∧ (Ls i).sl.length = ns := fun i => by
    induction i with
    | zero => exact fun _ => ⟨h, by show L0.tl.length ≤ 0; rw [h0]; exact Nat.le_refl _, ens.symm⟩
    | succ i ih =>
      intro hi
      obtain ⟨a1, a2, a3⟩ := ih (by omega)
      have := hF (i, Ls i) (by show i < 900; omega) a1 a2 a3
      rw [hs]
      exact ⟨this.rt, this.nt, this.nsl⟩
  exact ⟨Ls, fun i => F (i, Ls i), ⟨rfl, hs, hrt, fun i hi => by
    obtain ⟨a1, a2, a3⟩ := hrt i (by omega)
    exact hF (i, Ls i) hi a1 a2 a3⟩⟩
end Go.Proofs.T
end
section
namespace Go.Proofs.T
open Go Go.AM Go.Proofs
set_option maxRecDepth 20000
variable {Γ : List (Nat × List AVal)}
def zst7 : List AVal := [.lit (.int .i64 0), .lit (.int .u64 0), .lit (.slice none 0 0), .lit (.slice none 0 0), .lit (.slice none 0 0), .lit (.slice none 0 0), .lit (.slice none 0 0)]
def w1R (b : Nat) (L : LSt) : List AVal := [.lit (.int .i64 L.cpus), .lit (.int .u64 L.credit), .rd 2 L.gl.length (gf L.st), .sl (b + 6) 0 L.kl.length, .sl (b + 8) 0 L.ul.length, .sl (b + 10) 0 L.tl.length, .sl (b + 11) 0 L.sl.length]
def w0R (b : Nat) (L : LSt) : List AVal := [.lit (.int .i64 L.cpus), .lit (.int .u64 L.credit), .rd 2 L.gl.length (gf L.st), .sl (b + 6) 0 L.kl.length, .sl (b + 8) 0 L.ul.length, .rd 8 L.tl.length (tf L.st), .sl (b + 11) 0 L.sl.length]
def w1H (b n g0 : Nat) (L : LSt) (H : Heap) : Heap := (b + 11, ⟨1, false, cwR (b + 4) n L g0 L.sl.length⟩) :: (b + 4, ⟨3, true, slR L g0⟩) :: (b + 6, ⟨1, true, klR L⟩) :: (b + 8, ⟨1, true, ulR L⟩) :: (b + 10, ⟨8, true, tlR L⟩) :: H
def w0H (b n g0 : Nat) (L : LSt) (H : Heap) : Heap := (b + 11, ⟨1, false, cwR (b + 4) n L g0 L.sl.length⟩) :: (b + 4, ⟨3, true, slR L g0⟩) :: (b + 6, ⟨1, true, klR L⟩) :: (b + 8, ⟨1, true, ulR L⟩) :: H
attribute [go_sem] w1R w0R w1H w0H
theorem w1H_lt {b n g0 k : Nat} {L : LSt} {H : Heap} (hk : b + 12 ≤ k) (h : bdH (ltB k) H = true) : bdH (ltB k) (w1H b n g0 L H) = true :=
  bdH_consI (by simp only [ltB, decide_eq_true_eq]; omega) (cwR_all (by omega)) (bdH_cons1 (by simp only [ltB, decide_eq_true_eq]; omega) (bdH_cons1 (by simp only [ltB, decide_eq_true_eq]; omega) (bdH_cons1 (by simp only [ltB, decide_eq_true_eq]; omega) (bdH_cons1 (by simp only [ltB, decide_eq_true_eq]; omega) h))))
theorem w0H_lt {b n g0 k : Nat} {L : LSt} {H : Heap} (hk : b + 12 ≤ k) (h : bdH (ltB k) H = true) : bdH (ltB k) (w0H b n g0 L H) = true :=
  bdH_consI (by simp only [ltB, decide_eq_true_eq]; omega) (cwR_all (by omega)) (bdH_cons1 (by simp only [ltB, decide_eq_true_eq]; omega) (bdH_cons1 (by simp only [ltB, decide_eq_true_eq]; omega) (bdH_cons1 (by simp only [ltB, decide_eq_true_eq]; omega) h)))
theorem key_w {b n g0 q : Nat} {L : LSt} {H : Heap} (h : keyB (w1H b n g0 L H) q = true ∨ keyB (w0H b n g0 L H) q = true) : (b + 4 ≤ q ∧ q < b + 12) ∨ keyB H q = true := by
  rcases h with h | h
  all_goals
    simp only [keyB, w1H, w0H, AM.look] at h
    repeat' (split at h; (· exact .inl (by omega)))
    exact .inr h
set_option maxHeartbeats 8000000 in
theorem stateW1 (L : LSt) (n : Nat) (hS : Rt0 L n) (g0 : Nat) (hg0 : g0 < L.sl.length) (ht : 0 < L.tl.length) (m tk k : Nat) (hm : m + 6 + L.sl.length ≤ tk) (hk : tk < k) :
    Tr Tryz.prog Γ 13 k [.ptr m 0 0] (MH m tk L) (fun k1 r1 H1 => k1 = k + 12 ∧ r1 = .tup [.agg (w1R k L), .lit (.int .i64 0)] ∧ H1 = w1H k n g0 L (MH m tk L)) := by
  obtain ⟨RH, eRH⟩ : ∃ x : Heap, x = w1H k n g0 L (MH m tk L) := ⟨_, rfl⟩
  obtain ⟨RV, eRV⟩ : ∃ x : AVal, x = .tup [.agg (w1R k L), .lit (.int .i64 0)] := ⟨_, rfl⟩
  refine Tr.mono (Tr_in (kk := k + 12) (V := RV) (RH := RH) (by omega) (by rw [eRV]; simp [bd, bd1, bd0, ltB, w1R]) (by rw [eRH]; exact w1H_lt (by omega) (MH_lt (by omega) (by omega))) ?_) (fun _ _ _ h => ⟨h.1, h.2.1.trans eRV, h.2.2.trans eRH⟩)
  have hcp := copiedW1 L n hS g0 hg0 ht m tk (k + 1) hm (by omega) (Γ := Γ)
  simp only [stc, Nat.add_assoc, Nat.reduceAdd] at hcp
  refine Tr_at Tryz.func13 rfl 19 rfl (Nat.le_of_ble_eq_true rfl) ?_
  simp only [MH, LH]
  have kp : Kp [0,2,3,12] (fun i => if k ≤ i then i - k + 1 else 0) := kpI
  refine wlL ?_ <;> and_intros <;> first | exact hdT | (apply zM; (repeat intro ht); apply zM; (repeat intro hg); apply zM)
  refine clL [.far (.agg (w1R k L)) (k + 12) [(k, ⟨7, true, [[.lit (.int .i64 0), .lit (.int .u64 0), .lit (.slice none 0 0), .lit (.slice none 0 0), .lit (.slice none 0 0), .lit (.slice none 0 0), .lit (.slice none 0 0)]]⟩)] (MH m tk L) (w1H k n g0 L (MH m tk L))] ?_ <;> and_intros <;> first | exact hdT | (apply zM; (repeat intro ht); apply zM; (repeat intro hg); apply zM)
  · simp only [MH, LH]
    refine rRL ?_ <;> first | exact hdT | apply zN
    try rfl
  · intro q; simp only [MH, LH, mrow, List.cons_append, List.nil_append]
  · intro q hq
    have hq' := hq.elim .inr fun h => key_w (.inl h)
    rcases hq' with hq' | hq'
    · simp only [AM.look]; rw [if_neg (by omega)]
    · have := keyB_MH hq'
      simp only [AM.look]; rw [if_neg (by omega)]
  all_goals (try exact hcp)
  have uU := Go.AM.uU; refine cRD ?_; apply zN
  refine ⟨?_, ?_⟩
  · rw [eRV]; rfl
  · rw [eRH]
    simp only [MH, LH]
    refine rRL ?_ <;> first | exact hdT | apply zN
set_option maxHeartbeats 8000000 in
theorem stateW0 (L : LSt) (n : Nat) (hS : Rt0 L n) (g0 : Nat) (hg0 : g0 < L.sl.length) (ht : L.tl = []) (m tk k : Nat) (hm : m + 6 + L.sl.length ≤ tk) (hk : tk < k) :
    Tr Tryz.prog Γ 13 k [.ptr m 0 0] (MH m tk L) (fun k1 r1 H1 => k1 = k + 12 ∧ r1 = .tup [.agg (w0R k L), .lit (.int .i64 0)] ∧ H1 = w0H k n g0 L (MH m tk L)) := by
  obtain ⟨RH, eRH⟩ : ∃ x : Heap, x = w0H k n g0 L (MH m tk L) := ⟨_, rfl⟩
  obtain ⟨RV, eRV⟩ : ∃ x : AVal, x = .tup [.agg (w0R k L), .lit (.int .i64 0)] := ⟨_, rfl⟩
  refine Tr.mono (Tr_in (kk := k + 12) (V := RV) (RH := RH) (by omega) (by rw [eRV]; simp [bd, bd1, bd0, ltB, w0R]) (by rw [eRH]; exact w0H_lt (by omega) (MH_lt (by omega) (by omega))) ?_) (fun _ _ _ h => ⟨h.1, h.2.1.trans eRV, h.2.2.trans eRH⟩)
  have hcp := copiedW0 L n hS g0 hg0 ht m tk (k + 1) hm (by omega) (Γ := Γ)
  simp only [stc, Nat.add_assoc, Nat.reduceAdd] at hcp
  refine Tr_at Tryz.func13 rfl 19 rfl (Nat.le_of_ble_eq_true rfl) ?_
  simp only [MH, LH]
  have kp : Kp [0,2,3,12] (fun i => if k ≤ i then i - k + 1 else 0) := kpI
  refine wlL ?_ <;> and_intros <;> first | exact hdT | (apply zM; (repeat intro ht); apply zM; (repeat intro hg); apply zM)
  refine clL [.far (.agg (w0R k L)) (k + 12) [(k, ⟨7, true, [[.lit (.int .i64 0), .lit (.int .u64 0), .lit (.slice none 0 0), .lit (.slice none 0 0), .lit (.slice none 0 0), .lit (.slice none 0 0), .lit (.slice none 0 0)]]⟩)] (MH m tk L) (w0H k n g0 L (MH m tk L))] ?_ <;> and_intros <;> first | exact hdT | (apply zM; (repeat intro ht); apply zM; (repeat intro hg); apply zM)
  · simp only [MH, LH]
    refine rRL ?_ <;> first | exact hdT | apply zN
    try rfl
  · intro q; simp only [MH, LH, mrow, List.cons_append, List.nil_append]
  · intro q hq
    have hq' := hq.elim .inr fun h => key_w (.inr h)
    rcases hq' with hq' | hq'
    · simp only [AM.look]; rw [if_neg (by omega)]
    · have := keyB_MH hq'
      simp only [AM.look]; rw [if_neg (by omega)]
  all_goals (try exact hcp)
  have uU := Go.AM.uU; refine cRD ?_; apply zN
  refine ⟨?_, ?_⟩
  · rw [eRV]; rfl
  · rw [eRH]
    simp only [MH, LH]
    refine rRL ?_ <;> first | exact hdT | apply zN
set_option maxHeartbeats 8000000 in
theorem madeW1 (g0 : Nat) (x : Nums) (hx : NumsOk x) (f : Nat → Sm) (hf : ∀ i, SmOk (f i)) (nl most q qg n ng : Nat) (hq : q = min nl most) (hq2 : q ≤ 100) (hm2 : most ≤ 1000) (hnl : nl ≤ 9223372036854775807) (hqg : x.g % 6 = (qg : Int)) (hn : 1 + x.c % 4 = (n : Int)) (hng : ng = qg + 1)
    (k : Nat) (Ls : Nat → LSt) (zs : Nat → LSt × (Int × Int) × (Nat × Nat)) (hR : Runs Γ n ng (k + 16) (k + (24 + ng)) (k + (26 + ng)) (fun i => opn (f i)) (newL (cfgS (1 + x.c % 4) x.cr (mkGD x qg).1) n) Ls zs) (hgn : g0 < ng) (ht : 0 < (Ls q).tl.length) :
    Tr Tryz.prog Γ 16 k [.agg x.cells, .rd 8 nl (fun i => smc (f i)), .lit (.int .i64 (most : Int))] [] (fun k1 r1 H1 => k1 = k + (37 + ng) ∧ r1 = .tup [.agg (w1R (k + (25 + ng)) (Ls q)), .lit (.bool true)] ∧ H1 = w1H (k + (25 + ng)) n g0 (Ls q) []) := by
  have hmade := lmade x hx (Γ := Γ)
  rw [hqg, Int.toNat_natCast] at hmade
  have hscr := lscript f hf nl most q hq (by omega) hm2 hnl (Γ := Γ)
  obtain ⟨s, es⟩ : ∃ s, s = cfgS (1 + x.c % 4) x.cr (mkGD x qg).1 := ⟨_, rfl⟩
  have hl := (mkGD_len x qg).1
  have hc0 := hx.c0
  have hg0 := hx.g0
  have hsng : s.ng = ng := by rw [es, hng]; exact hl
  have hnew := mnew s n (by rw [es]; exact hn) (by rw [cfg_eq, es]; exact cfg_mk hx (by omega)) (by omega) (by omega) (by omega) (by omega) (k + 2) (Γ := Γ)
  rw [hsng] at hnew
  rw [← es] at hmade hR
  obtain ⟨kx, ekx⟩ : ∃ kx, kx = k + (25 + ng) := ⟨_, rfl⟩
  obtain ⟨T, eT⟩ : ∃ T, T = k + (24 + ng) := ⟨_, rfl⟩
  rw [show k + 2 + (23 + ng) = kx by omega, show k + 2 + (22 + ng) = T by omega, show k + 2 + 14 = k + 16 from rfl] at hnew
  rw [← eT, show k + (26 + ng) = kx + 1 by omega] at hR
  obtain ⟨RV, eRV⟩ : ∃ r, r = AVal.tup [.agg (w1R kx (Ls q)), .lit (.bool true)] := ⟨_, rfl⟩
  obtain ⟨RH, eRH⟩ : ∃ x : Heap, x = w1H kx n g0 (Ls q) [] := ⟨_, rfl⟩
  rw [← ekx, show k + (37 + ng) = kx + 12 by omega]
  refine Tr.mono (Tr_in (kk := kx + 12) (V := RV) (RH := RH) (by omega) (by rw [eRV]; simp [bd, bd1, bd0, ltB, w1R]) (by rw [eRH]; exact w1H_lt (by omega) rfl) ?_) (fun _ _ _ h => ⟨h.1, h.2.1.trans eRV, h.2.2.trans eRH⟩)
  refine Tr_at Tryz.func16 rfl 46 rfl (Nat.le_of_ble_eq_true rfl) ?_
  simp only [Nums.cells] at hmade
  obtain ⟨NC, eNC⟩ : ∃ NC, NC = x.cells := ⟨_, rfl⟩
  have kp : Kp [0,1,2,3,6,7,8,9,11,12,24,28,29,30,31] (fun i => i - k) := kpI
  have uU := @Nums.cells.eq_1
  refine wlL ?_ <;> and_intros <;> first | exact hdT | (apply zM; (repeat intro ht); apply zM; (repeat intro hg); apply zM)
  refine clL [.ret (.agg [.lit (.int .i64 s.cpus), .lit (.int .u64 s.credit), .rd 2 s.ng (gf s)]), .far (.tup [.ptr (k + 16) 0 0, .lit (.int .i64 0)]) kx [(k + 1, ⟨7, true, [zst7]⟩), (k, ⟨13, true, [x.cells]⟩)] [] (MH (k + 16) T (newL s n))] ?_ <;> and_intros <;> first | exact hdT | (apply zM; (repeat intro ht); apply zM; (repeat intro hg); apply zM)
  · exact hmade
  · exact fun q => rfl
  · exact fun q hq => by
      rcases hq with hq | hq
      · simp [keyB, AM.look] at hq
      · have := keyB_MH hq
        simp only [AM.look]
        repeat rw [if_neg (by omega)]
  · exact hnew
  refine wlL ?_ <;> and_intros <;> first | exact hdT | (apply zM; (repeat intro ht); apply zM; (repeat intro hg); apply zM)
  rotate_left 1
  · decide
  · exact absurd trivial hg
  obtain ⟨F, hF⟩ : ∃ F : Nat → Heap, ∀ i, F i = MH (k + 16) T (Ls i) := ⟨_, fun _ => rfl⟩
  rw [← hR.z, ← hF 0]
  refine clL [.ret (.rd 8 q (fun i => opc (opn (f i))))] ?_ <;> and_intros <;> first | exact hdT | (apply zM; (repeat intro ht); apply zM; (repeat intro hg); apply zM)
  · exact hscr
  refine wlL ?_ <;> and_intros <;> first | exact hdT | (apply zM; (repeat intro ht); apply zM; (repeat intro hg); apply zM)
  obtain ⟨NB, eNB⟩ : ∃ B : Blk, B = ⟨13, true, [[.lit (.int .u8 x.c), .lit (.int .u8 x.g), .lit (.int .u32 x.cr), .lit (.int .u8 (x.p 0)), .lit (.int .u8 (x.p 1)), .lit (.int .u8 (x.p 2)), .lit (.int .u8 (x.p 3)), .lit (.int .u8 (x.p 4)), .lit (.int .u16 (x.w 0)), .lit (.int .u16 (x.w 1)), .lit (.int .u16 (x.w 2)), .lit (.int .u16 (x.w 3)), .lit (.int .u16 (x.w 4))]]⟩ := ⟨_, rfl⟩
  refine M_forO (X := Nat) rfl [0,1,2,3,6,7,8,9,11,12,24,28,29,30,31] kx (fun i => [(30, .lit (.int .i64 (i : Int)))]) (fun i => (k + 1, ⟨7, true, [zst7]⟩) :: (k, NB) :: F i) (fun i => i ≤ q) (fun i => q - i) 0 ?_ (Nat.zero_le _) ?_
  · have hl0 := (hR.rt 0 (by omega)).2.2
    rw [eNB, hF 0]
    simp only [MH, LH]
    have uU := @hl0
    refine rRL ?_ <;> first | exact hdT | apply zN
    exact wkD
  intro i hi
  refine rRL ?_ <;> first | exact hdT | apply zN
  by_cases hi2 : i < q
  · obtain ⟨hd1, hd2, hd3, hd4, hd5, hd6, hd7, hd8, hd9⟩ := hR.did i (by omega)
    rw [← hR.s i] at hd9
    obtain ⟨hr1, hr2, hr3⟩ := hR.rt i (by omega)
    obtain ⟨hr4, hr5, hr6⟩ := hR.rt (i + 1) (by omega)
    obtain ⟨tk', etk⟩ : ∃ t, t = (zs i).2.2.1 := ⟨_, rfl⟩
    obtain ⟨kk', ekk⟩ : ∃ t, t = (zs i).2.2.2 := ⟨_, rfl⟩
    obtain ⟨ra, era⟩ : ∃ t, t = (zs i).2.1.1 := ⟨_, rfl⟩
    obtain ⟨re, ere⟩ : ∃ t, t = (zs i).2.1.2 := ⟨_, rfl⟩
    rw [← etk] at hd5 hd6 hd7 hd9
    rw [← ekk] at hd6 hd8 hd9
    rw [← era, ← ere] at hd9
    simp only [opc, res2] at hd9
    have hdel : del (F i) kx = F i := by
      rw [hF]
      simp only [MH, LH]
      have uU := @hr3
      refine rRL ?_ <;> first | exact hdT | apply zN
    have uU := zA @Nums.cells.eq_1 @hdel
    refine wlL ?_ <;> and_intros <;> first | exact hdT | (apply zM; (repeat intro ht); apply zM; (repeat intro hg); apply zM)
    refine clL [.far (res2 ra re) kk' [(kx, ⟨8, true, [opc (opn (f i))]⟩), (k + 1, ⟨7, true, [zst7]⟩), (k, NB)] (MH (k + 16) T (Ls i)) (MH (k + 16) tk' (Ls (i + 1)))] ?_ <;> and_intros <;> first | exact hdT | (apply zM; (repeat intro ht); apply zM; (repeat intro hg); apply zM)
    · exact fun q => by rw [hF]
    · exact fun q hq => by
        rcases hq with hq | hq
        · have := keyB_MH hq
          simp only [AM.look]
          repeat rw [if_neg (by omega)]
        · have := keyB_MH hq
          simp only [AM.look]
          repeat rw [if_neg (by omega)]
    · exact hd9
    refine wlL ?_ <;> and_intros <;> first | exact hdT | (apply zM; (repeat intro ht); apply zM; (repeat intro hg); apply zM)
    refine ⟨i + 1, by omega, by omega, ?_⟩
    rw [hF]
    subst eNB
    rcases hd7 with h | h
    · rw [h]
      simp only [MH, LH]
      have uU := @hr6
      refine rRL ?_ <;> first | exact hdT | apply zN
      exact wkD
    · refine Mv.trans (Mv.swap tk' T ⟨by omega, by omega⟩ ⟨by omega, by omega⟩) ?_
      simp only [MH, LH]
      have uU := @hr6
      refine rRL ?_ <;> first | exact hdT | apply zN
      exact wkD
  · have hil : i = q := by omega
    subst hil
    obtain ⟨hr1, hr2, hr3⟩ := hR.rt i (by omega)
    have hst := stateW1 (Ls i) n hr1.r0 g0 (by omega) ht (k + 16) T kx (by omega) (by omega) (Γ := Γ)
    obtain ⟨SC, eSC⟩ : ∃ c, c = w1R kx (Ls i) := ⟨_, rfl⟩
    have hSl : SC.length = 7 := by rw [eSC]; rfl
    rw [← eSC] at hst eRV
    have ht7 : SC.take 7 = SC := by rw [eSC]; rfl
    have hS1 : SC.all AM.one = true := by rw [eSC]; rfl
    have hSc : SC.all clean = false := by rw [eSC]; rfl
    have hz7 : zst7.length = 7 := rfl
    have hz8 : List.drop 7 zst7 = [] := rfl
    have hdel : del (F i) kx = F i := by
      rw [hF]
      simp only [MH, LH]
      have uU := @hr3
      refine rRL ?_ <;> first | exact hdT | apply zN
    have hdel2 : del (MH (k + 16) T (Ls i)) (kx + 12) = MH (k + 16) T (Ls i) := by
      simp only [MH, LH]
      have uU := @hr3
      refine rRL ?_ <;> first | exact hdT | apply zN
    have hll : decide ((i : Int) < (i : Int)) = false := by simp
    have uU := zA @hll (zA @hSl (zA @ht7 (zA @hS1 (zA @hSc (zA @hz7 (zA @hz8 (zA @hdel (zA @hdel2 @apN))))))))
    refine wlL ?_ <;> and_intros <;> first | exact hdT | (apply zM; (repeat intro ht); apply zM; (repeat intro hg); apply zM)
    refine clL [.far (.tup [.agg SC, .lit (.int .i64 0)]) (kx + 12) [(k + 1, ⟨7, true, [zst7]⟩), (k, NB)] (MH (k + 16) T (Ls i)) (w1H kx n g0 (Ls i) (MH (k + 16) T (Ls i)))] ?_ <;> and_intros <;> first | exact hdT | (apply zM; (repeat intro ht); apply zM; (repeat intro hg); apply zM)
    · exact fun q => by rw [hF]
    · intro q hq
      have hq' := hq.elim .inr fun h => key_w (.inl h)
      rcases hq' with hq' | hq'
      · simp only [AM.look]
        repeat rw [if_neg (by omega)]
      · have := keyB_MH hq'
        simp only [AM.look]
        repeat rw [if_neg (by omega)]
    all_goals (try exact hst)
    refine wlL ?_ <;> and_intros <;> first | exact hdT | (apply zM; (repeat intro ht); apply zM; (repeat intro hg); apply zM)
    have uU := zA @hll (zA @hSl (zA @ht7 (zA @hS1 (zA @hSc (zA @hz7 (zA @hz8 (zA @hdel (zA @hdel2 @apN)))))))); refine cRD ?_; apply zN
    refine ⟨?_, ?_⟩
    · rw [eRV]
    · rw [eRH]
      simp only [MH, LH]
      have uU := @hr3
      refine rRL ?_ <;> first | exact hdT | apply zN
set_option maxHeartbeats 8000000 in
theorem madeW0 (g0 : Nat) (x : Nums) (hx : NumsOk x) (f : Nat → Sm) (hf : ∀ i, SmOk (f i)) (nl most q qg n ng : Nat) (hq : q = min nl most) (hq2 : q ≤ 100) (hm2 : most ≤ 1000) (hnl : nl ≤ 9223372036854775807) (hqg : x.g % 6 = (qg : Int)) (hn : 1 + x.c % 4 = (n : Int)) (hng : ng = qg + 1)
    (k : Nat) (Ls : Nat → LSt) (zs : Nat → LSt × (Int × Int) × (Nat × Nat)) (hR : Runs Γ n ng (k + 16) (k + (24 + ng)) (k + (26 + ng)) (fun i => opn (f i)) (newL (cfgS (1 + x.c % 4) x.cr (mkGD x qg).1) n) Ls zs) (hgn : g0 < ng) (ht : (Ls q).tl = []) :
    Tr Tryz.prog Γ 16 k [.agg x.cells, .rd 8 nl (fun i => smc (f i)), .lit (.int .i64 (most : Int))] [] (fun k1 r1 H1 => k1 = k + (37 + ng) ∧ r1 = .tup [.agg (w0R (k + (25 + ng)) (Ls q)), .lit (.bool true)] ∧ H1 = w0H (k + (25 + ng)) n g0 (Ls q) []) := by
  have hmade := lmade x hx (Γ := Γ)
  rw [hqg, Int.toNat_natCast] at hmade
  have hscr := lscript f hf nl most q hq (by omega) hm2 hnl (Γ := Γ)
  obtain ⟨s, es⟩ : ∃ s, s = cfgS (1 + x.c % 4) x.cr (mkGD x qg).1 := ⟨_, rfl⟩
  have hl := (mkGD_len x qg).1
  have hc0 := hx.c0
  have hg0 := hx.g0
  have hsng : s.ng = ng := by rw [es, hng]; exact hl
  have hnew := mnew s n (by rw [es]; exact hn) (by rw [cfg_eq, es]; exact cfg_mk hx (by omega)) (by omega) (by omega) (by omega) (by omega) (k + 2) (Γ := Γ)
  rw [hsng] at hnew
  rw [← es] at hmade hR
  obtain ⟨kx, ekx⟩ : ∃ kx, kx = k + (25 + ng) := ⟨_, rfl⟩
  obtain ⟨T, eT⟩ : ∃ T, T = k + (24 + ng) := ⟨_, rfl⟩
  rw [show k + 2 + (23 + ng) = kx by omega, show k + 2 + (22 + ng) = T by omega, show k + 2 + 14 = k + 16 from rfl] at hnew
  rw [← eT, show k + (26 + ng) = kx + 1 by omega] at hR
  obtain ⟨RV, eRV⟩ : ∃ r, r = AVal.tup [.agg (w0R kx (Ls q)), .lit (.bool true)] := ⟨_, rfl⟩
  obtain ⟨RH, eRH⟩ : ∃ x : Heap, x = w0H kx n g0 (Ls q) [] := ⟨_, rfl⟩
  rw [← ekx, show k + (37 + ng) = kx + 12 by omega]
  refine Tr.mono (Tr_in (kk := kx + 12) (V := RV) (RH := RH) (by omega) (by rw [eRV]; simp [bd, bd1, bd0, ltB, w0R]) (by rw [eRH]; exact w0H_lt (by omega) rfl) ?_) (fun _ _ _ h => ⟨h.1, h.2.1.trans eRV, h.2.2.trans eRH⟩)
  refine Tr_at Tryz.func16 rfl 46 rfl (Nat.le_of_ble_eq_true rfl) ?_
  simp only [Nums.cells] at hmade
  obtain ⟨NC, eNC⟩ : ∃ NC, NC = x.cells := ⟨_, rfl⟩
  have kp : Kp [0,1,2,3,6,7,8,9,11,12,24,28,29,30,31] (fun i => i - k) := kpI
  have uU := @Nums.cells.eq_1
  refine wlL ?_ <;> and_intros <;> first | exact hdT | (apply zM; (repeat intro ht); apply zM; (repeat intro hg); apply zM)
  refine clL [.ret (.agg [.lit (.int .i64 s.cpus), .lit (.int .u64 s.credit), .rd 2 s.ng (gf s)]), .far (.tup [.ptr (k + 16) 0 0, .lit (.int .i64 0)]) kx [(k + 1, ⟨7, true, [zst7]⟩), (k, ⟨13, true, [x.cells]⟩)] [] (MH (k + 16) T (newL s n))] ?_ <;> and_intros <;> first | exact hdT | (apply zM; (repeat intro ht); apply zM; (repeat intro hg); apply zM)
  · exact hmade
  · exact fun q => rfl
  · exact fun q hq => by
      rcases hq with hq | hq
      · simp [keyB, AM.look] at hq
      · have := keyB_MH hq
        simp only [AM.look]
        repeat rw [if_neg (by omega)]
  · exact hnew
  refine wlL ?_ <;> and_intros <;> first | exact hdT | (apply zM; (repeat intro ht); apply zM; (repeat intro hg); apply zM)
  rotate_left 1
  · decide
  · exact absurd trivial hg
  obtain ⟨F, hF⟩ : ∃ F : Nat → Heap, ∀ i, F i = MH (k + 16) T (Ls i) := ⟨_, fun _ => rfl⟩
  rw [← hR.z, ← hF 0]
  refine clL [.ret (.rd 8 q (fun i => opc (opn (f i))))] ?_ <;> and_intros <;> first | exact hdT | (apply zM; (repeat intro ht); apply zM; (repeat intro hg); apply zM)
  · exact hscr
  refine wlL ?_ <;> and_intros <;> first | exact hdT | (apply zM; (repeat intro ht); apply zM; (repeat intro hg); apply zM)
  obtain ⟨NB, eNB⟩ : ∃ B : Blk, B = ⟨13, true, [[.lit (.int .u8 x.c), .lit (.int .u8 x.g), .lit (.int .u32 x.cr), .lit (.int .u8 (x.p 0)), .lit (.int .u8 (x.p 1)), .lit (.int .u8 (x.p 2)), .lit (.int .u8 (x.p 3)), .lit (.int .u8 (x.p 4)), .lit (.int .u16 (x.w 0)), .lit (.int .u16 (x.w 1)), .lit (.int .u16 (x.w 2)), .lit (.int .u16 (x.w 3)), .lit (.int .u16 (x.w 4))]]⟩ := ⟨_, rfl⟩
  refine M_forO (X := Nat) rfl [0,1,2,3,6,7,8,9,11,12,24,28,29,30,31] kx (fun i => [(30, .lit (.int .i64 (i : Int)))]) (fun i => (k + 1, ⟨7, true, [zst7]⟩) :: (k, NB) :: F i) (fun i => i ≤ q) (fun i => q - i) 0 ?_ (Nat.zero_le _) ?_
  · have hl0 := (hR.rt 0 (by omega)).2.2
    rw [eNB, hF 0]
    simp only [MH, LH]
    have uU := @hl0
    refine rRL ?_ <;> first | exact hdT | apply zN
    exact wkD
  intro i hi
  refine rRL ?_ <;> first | exact hdT | apply zN
  by_cases hi2 : i < q
  · obtain ⟨hd1, hd2, hd3, hd4, hd5, hd6, hd7, hd8, hd9⟩ := hR.did i (by omega)
    rw [← hR.s i] at hd9
    obtain ⟨hr1, hr2, hr3⟩ := hR.rt i (by omega)
    obtain ⟨hr4, hr5, hr6⟩ := hR.rt (i + 1) (by omega)
    obtain ⟨tk', etk⟩ : ∃ t, t = (zs i).2.2.1 := ⟨_, rfl⟩
    obtain ⟨kk', ekk⟩ : ∃ t, t = (zs i).2.2.2 := ⟨_, rfl⟩
    obtain ⟨ra, era⟩ : ∃ t, t = (zs i).2.1.1 := ⟨_, rfl⟩
    obtain ⟨re, ere⟩ : ∃ t, t = (zs i).2.1.2 := ⟨_, rfl⟩
    rw [← etk] at hd5 hd6 hd7 hd9
    rw [← ekk] at hd6 hd8 hd9
    rw [← era, ← ere] at hd9
    simp only [opc, res2] at hd9
    have hdel : del (F i) kx = F i := by
      rw [hF]
      simp only [MH, LH]
      have uU := @hr3
      refine rRL ?_ <;> first | exact hdT | apply zN
    have uU := zA @Nums.cells.eq_1 @hdel
    refine wlL ?_ <;> and_intros <;> first | exact hdT | (apply zM; (repeat intro ht); apply zM; (repeat intro hg); apply zM)
    refine clL [.far (res2 ra re) kk' [(kx, ⟨8, true, [opc (opn (f i))]⟩), (k + 1, ⟨7, true, [zst7]⟩), (k, NB)] (MH (k + 16) T (Ls i)) (MH (k + 16) tk' (Ls (i + 1)))] ?_ <;> and_intros <;> first | exact hdT | (apply zM; (repeat intro ht); apply zM; (repeat intro hg); apply zM)
    · exact fun q => by rw [hF]
    · exact fun q hq => by
        rcases hq with hq | hq
        · have := keyB_MH hq
          simp only [AM.look]
          repeat rw [if_neg (by omega)]
        · have := keyB_MH hq
          simp only [AM.look]
          repeat rw [if_neg (by omega)]
    · exact hd9
    refine wlL ?_ <;> and_intros <;> first | exact hdT | (apply zM; (repeat intro ht); apply zM; (repeat intro hg); apply zM)
    refine ⟨i + 1, by omega, by omega, ?_⟩
    rw [hF]
    subst eNB
    rcases hd7 with h | h
    · rw [h]
      simp only [MH, LH]
      have uU := @hr6
      refine rRL ?_ <;> first | exact hdT | apply zN
      exact wkD
    · refine Mv.trans (Mv.swap tk' T ⟨by omega, by omega⟩ ⟨by omega, by omega⟩) ?_
      simp only [MH, LH]
      have uU := @hr6
      refine rRL ?_ <;> first | exact hdT | apply zN
      exact wkD
  · have hil : i = q := by omega
    subst hil
    obtain ⟨hr1, hr2, hr3⟩ := hR.rt i (by omega)
    have hst := stateW0 (Ls i) n hr1.r0 g0 (by omega) ht (k + 16) T kx (by omega) (by omega) (Γ := Γ)
    obtain ⟨SC, eSC⟩ : ∃ c, c = w0R kx (Ls i) := ⟨_, rfl⟩
    have hSl : SC.length = 7 := by rw [eSC]; rfl
    rw [← eSC] at hst eRV
    have ht7 : SC.take 7 = SC := by rw [eSC]; rfl
    have hS1 : SC.all AM.one = true := by rw [eSC]; rfl
    have hSc : SC.all clean = false := by rw [eSC]; rfl
    have hz7 : zst7.length = 7 := rfl
    have hz8 : List.drop 7 zst7 = [] := rfl
    have hdel : del (F i) kx = F i := by
      rw [hF]
      simp only [MH, LH]
      have uU := @hr3
      refine rRL ?_ <;> first | exact hdT | apply zN
    have hdel2 : del (MH (k + 16) T (Ls i)) (kx + 12) = MH (k + 16) T (Ls i) := by
      simp only [MH, LH]
      have uU := @hr3
      refine rRL ?_ <;> first | exact hdT | apply zN
    have hll : decide ((i : Int) < (i : Int)) = false := by simp
    have uU := zA @hll (zA @hSl (zA @ht7 (zA @hS1 (zA @hSc (zA @hz7 (zA @hz8 (zA @hdel (zA @hdel2 @apN))))))))
    refine wlL ?_ <;> and_intros <;> first | exact hdT | (apply zM; (repeat intro ht); apply zM; (repeat intro hg); apply zM)
    refine clL [.far (.tup [.agg SC, .lit (.int .i64 0)]) (kx + 12) [(k + 1, ⟨7, true, [zst7]⟩), (k, NB)] (MH (k + 16) T (Ls i)) (w0H kx n g0 (Ls i) (MH (k + 16) T (Ls i)))] ?_ <;> and_intros <;> first | exact hdT | (apply zM; (repeat intro ht); apply zM; (repeat intro hg); apply zM)
    · exact fun q => by rw [hF]
    · intro q hq
      have hq' := hq.elim .inr fun h => key_w (.inr h)
      rcases hq' with hq' | hq'
      · simp only [AM.look]
        repeat rw [if_neg (by omega)]
      · have := keyB_MH hq'
        simp only [AM.look]
        repeat rw [if_neg (by omega)]
    all_goals (try exact hst)
    refine wlL ?_ <;> and_intros <;> first | exact hdT | (apply zM; (repeat intro ht); apply zM; (repeat intro hg); apply zM)
    have uU := zA @hll (zA @hSl (zA @ht7 (zA @hS1 (zA @hSc (zA @hz7 (zA @hz8 (zA @hdel (zA @hdel2 @apN)))))))); refine cRD ?_; apply zN
    refine ⟨?_, ?_⟩
    · rw [eRV]
    · rw [eRH]
      simp only [MH, LH]
      have uU := @hr3
      refine rRL ?_ <;> first | exact hdT | apply zN
end Go.Proofs.T
end
section
namespace Go.AM
open Go
section
variable {P : Program} {Γ : List (Nat × List AVal)}
theorem Tr_give {f : FuncId} {k : Nat} {args args' : List AVal} {r : AVal} {Hc : Heap} (hb : BorL Γ Hc args args') (hp : Pure P Γ f args' r) : Tr P Γ f k args Hc (fun k1 r1 H1 => k1 = k ∧ r1 = r ∧ H1 = []) := by
  intro A hA w G ρ cargs hrel hvs
  have hH : Holds Hc (ofHeap Hc A) A := fun id B h => ⟨A, by simp [ofHeap, h], fun _ h => h⟩
  have hVs1 : Vs w (fun b => G b ∨ owned ρ b) noNames A args' cargs := ⟨by rw [← hb.len]; exact hvs.1, fun j v' hj => by
    obtain ⟨v, h1, h2⟩ := hb.get j v' hj
    exact (h2 w G ρ _ A _ hrel hH (hvs.2 j v h1)).mono (fun b h => h.imp id fun ⟨id, B, s, _, h4⟩ => ⟨id, s, h4⟩) (fun _ _ => rfl) (fun _ _ => rfl) (fun _ h => h.elim) (fun _ h => h.elim)⟩
  refine (hp k A hA w _ noNames cargs hrel.fz hVs1).mono ?_
  rintro e w' ⟨cv, G', ρ', k', r', H', rfl, ⟨rfl, rfl, rfl⟩, hk, hrel', hV, hst⟩
  exact ⟨cv, G', ρ', k', r', [], rfl, ⟨rfl, rfl, rfl⟩, hk, hrel', hV, ⟨hst.size, fun b hb _ => hst.keep b hb (fun ⟨_, _, h⟩ => by cases h), hst.shape, fun b h => hst.g b (.inl h),
    fun b h => (hst.g' b h).elim (fun h => h.elim .inl fun h => .inr (.inl h)) (fun h => h.elim (fun ⟨_, _, h⟩ => by cases h) fun h => .inr (.inr h)),
    fun b h => (hst.own b h).elim (fun ⟨_, _, h⟩ => by cases h) .inr, fun id h => (hst.ids id h).elim .inl .inl, hst.os, hst.tape, hst.output⟩⟩
theorem Bor.agg {Hc : Heap} {cs cs' : List AVal} (hl : cs.length = cs'.length) (h : ∀ (j : Nat) v v', cs[j]? = some v → cs'[j]? = some v' → Bor Γ Hc v v') : Bor Γ Hc (.agg cs) (.agg cs') := fun w G ρ H A cv hr hh hv => by
  cases hv with
  | agg h1 h2 =>
    refine .agg (by omega) fun j u hj => ?_
    have hlt : j < cs.length := by have := (List.getElem?_eq_some_iff.1 hj).1; omega
    exact h j _ u (List.getElem?_eq_getElem hlt) hj w G ρ H A _ hr hh (h2 j _ (List.getElem?_eq_getElem hlt))
theorem BorL.one {Hc : Heap} {v v' : AVal} (h : Bor Γ Hc v v') : BorL Γ Hc [v] [v'] := .cons h .nil
end
end Go.AM
namespace Go.Proofs.T
open Go Go.AM Go.Proofs
set_option maxRecDepth 20000
variable {Γ : List (Nat × List AVal)}
theorem w_outer {Hc : Heap} {b n g0 : Nat} {L : LSt} (hg0 : g0 < L.sl.length) (hn : ∀ g, g < L.sl.length → (L.sl.getD g []).length = n) (lO : AM.look Hc (b + 11) = some ⟨1, false, cwR (b + 4) n L g0 L.sl.length⟩) (lX : AM.look Hc (b + 4) = some ⟨3, true, slR L g0⟩) :
    Bor Γ Hc (.sl (b + 11) 0 L.sl.length) (.rd 1 L.sl.length (ssf L.st)) :=
  bor_sl lO (by rw [cwR_len]; exact Nat.le_refl _) (fun i _ => rfl) fun i hi => ⟨_, cwR_get hi, fun j v v' h1 h2 => by
    match j with
    | 0 =>
      by_cases e : i = g0
      · subst e
        rw [if_pos rfl] at h1
        simp only [List.getElem?_cons_zero, Option.some.injEq, ssf] at h1 h2
        subst h1; subst h2
        show Bor Γ Hc (.sl (b + 4) 0 n) (.rd 3 (L.sl.getD i []).length (sf L.st i))
        rw [hn i hi]
        exact bor_sl lX (by rw [slR_len, hn i hi]; exact Nat.le_refl _) (fun c _ => rfl) fun c hc => ⟨_, slR_get (by rw [hn i hi]; exact hc), bor_lits rfl⟩
      · rw [if_neg e] at h1
        rw [h1] at h2; cases h2
        simp only [List.getElem?_cons_zero, Option.some.injEq, ssf] at h1
        subst h1
        exact Bor.clean rfl
    | j + 1 => simp [ssf] at h2⟩
theorem w1_bor {b n g0 : Nat} {L : LSt} (hg0 : g0 < L.sl.length) (hn : ∀ g, g < L.sl.length → (L.sl.getD g []).length = n) : Bor Γ (w1H b n g0 L []) (.agg (w1R b L)) (.agg L.st.cells) := by
  have lO : AM.look (w1H b n g0 L []) (b + 11) = some ⟨1, false, cwR (b + 4) n L g0 L.sl.length⟩ := by simp only [w1H, AM.look]; repeat (first | rw [if_neg (by omega)] | rw [if_pos trivial])
  have lX : AM.look (w1H b n g0 L []) (b + 4) = some ⟨3, true, slR L g0⟩ := by simp only [w1H, AM.look]; repeat (first | rw [if_neg (by omega)] | rw [if_pos trivial])
  have lK : AM.look (w1H b n g0 L []) (b + 6) = some ⟨1, true, klR L⟩ := by simp only [w1H, AM.look]; repeat (first | rw [if_neg (by omega)] | rw [if_pos trivial])
  have lU : AM.look (w1H b n g0 L []) (b + 8) = some ⟨1, true, ulR L⟩ := by simp only [w1H, AM.look]; repeat (first | rw [if_neg (by omega)] | rw [if_pos trivial])
  have lT : AM.look (w1H b n g0 L []) (b + 10) = some ⟨8, true, tlR L⟩ := by simp only [w1H, AM.look]; repeat (first | rw [if_neg (by omega)] | rw [if_pos trivial])
  refine Bor.agg rfl fun j v v' h1 h2 => ?_
  match j with
  | 0 => cases h1; cases h2; exact Bor.lit
  | 1 => cases h1; cases h2; exact Bor.lit
  | 2 => cases h1; cases h2; exact Bor.clean rfl
  | 3 => cases h1; cases h2; exact bor_sl lK (by rw [klR_len]; exact Nat.le_refl _) (fun i _ => rfl) fun i hi => ⟨_, klR_get hi, bor_lits rfl⟩
  | 4 => cases h1; cases h2; exact bor_sl lU (by rw [ulR_len]; exact Nat.le_refl _) (fun i _ => rfl) fun i hi => ⟨_, ulR_get hi, bor_lits rfl⟩
  | 5 => cases h1; cases h2; exact bor_sl lT (by rw [tlR_len]; exact Nat.le_refl _) (fun i _ => rfl) fun i hi => ⟨_, tlR_get hi, bor_lits rfl⟩
  | 6 => cases h1; cases h2; exact w_outer hg0 hn lO lX
  | j + 7 => simp [w1R] at h1
theorem w0_bor {b n g0 : Nat} {L : LSt} (hg0 : g0 < L.sl.length) (hn : ∀ g, g < L.sl.length → (L.sl.getD g []).length = n) : Bor Γ (w0H b n g0 L []) (.agg (w0R b L)) (.agg L.st.cells) := by
  have lO : AM.look (w0H b n g0 L []) (b + 11) = some ⟨1, false, cwR (b + 4) n L g0 L.sl.length⟩ := by simp only [w0H, AM.look]; repeat (first | rw [if_neg (by omega)] | rw [if_pos trivial])
  have lX : AM.look (w0H b n g0 L []) (b + 4) = some ⟨3, true, slR L g0⟩ := by simp only [w0H, AM.look]; repeat (first | rw [if_neg (by omega)] | rw [if_pos trivial])
  have lK : AM.look (w0H b n g0 L []) (b + 6) = some ⟨1, true, klR L⟩ := by simp only [w0H, AM.look]; repeat (first | rw [if_neg (by omega)] | rw [if_pos trivial])
  have lU : AM.look (w0H b n g0 L []) (b + 8) = some ⟨1, true, ulR L⟩ := by simp only [w0H, AM.look]; repeat (first | rw [if_neg (by omega)] | rw [if_pos trivial])
  refine Bor.agg rfl fun j v v' h1 h2 => ?_
  match j with
  | 0 => cases h1; cases h2; exact Bor.lit
  | 1 => cases h1; cases h2; exact Bor.lit
  | 2 => cases h1; cases h2; exact Bor.clean rfl
  | 3 => cases h1; cases h2; exact bor_sl lK (by rw [klR_len]; exact Nat.le_refl _) (fun i _ => rfl) fun i hi => ⟨_, klR_get hi, bor_lits rfl⟩
  | 4 => cases h1; cases h2; exact bor_sl lU (by rw [ulR_len]; exact Nat.le_refl _) (fun i _ => rfl) fun i hi => ⟨_, ulR_get hi, bor_lits rfl⟩
  | 5 => cases h1; cases h2; exact Bor.clean rfl
  | 6 => cases h1; cases h2; exact w_outer hg0 hn lO lX
  | j + 7 => simp [w0R] at h1
end Go.Proofs.T
end
section
namespace Go.Proofs.T
open Go Go.AM Go.Proofs
set_option maxRecDepth 20000
variable {Γ : List (Nat × List AVal)}
def saysText (x : Option (Nat × AVal × Heap)) : Option ByteArray := match x with
  | some (_, .tup [.lit (.string s), .lit (.int .i64 0)], []) => some s
  | _ => none
theorem Pure_text {P : Program} {Γ : List (Nat × List AVal)} (n : Nat) {f : FuncId} {args : List AVal} (ha : args.all (bd fun _ => false) = true) (h : (saysText ((ev P Γ n).call f 0 args [])).isSome = true) : ∃ s, Pure P Γ f args (.tup [.lit (.string s), .lit (.int .i64 0)]) := by
  unfold saysText at h
  split at h
  · rename_i k' s hk; exact ⟨s, Pure_ev n ha rfl hk⟩
  · cases h
def smallF : List (Nat × Nat × Nat) := (List.range 4).flatMap (fun a => [(3, a, 0), (12, a, 0), (13, a, 0)]) ++ (List.range 40).flatMap (fun a => [(8, a, 0), (9, a, 0), (10, a, 0)]) ++ (List.range 6).flatMap (fun a => (List.range 4).map fun b => (14, a, b))
theorem smallT : (smallF.all fun x => (saysText ((ev Tryz.prog [] 60).call 25 0 [.agg [.lit (.int .u8 (x.1 : Int)), .lit (.int .i64 (x.2.1 : Int)), .lit (.int .i64 (x.2.2 : Int))]] [])).isSome) = true := by kernel_rfl
end Go.Proofs.T
end
section
namespace Go.Proofs.T
open Go Go.AM Go.Proofs
set_option maxRecDepth 20000
variable {Γ : List (Nat × List AVal)}
theorem small_text {r a b : Nat} (h : (r, a, b) ∈ smallF) : ∃ s, AM.Pure Tryz.prog [] 25 [.agg [.lit (.int .u8 (r : Int)), .lit (.int .i64 (a : Int)), .lit (.int .i64 (b : Int))]] (.tup [.lit (.string s), .lit (.int .i64 0)]) := by
  have key := List.all_eq_true.1 smallT (r, a, b) h
  dsimp only at key
  exact Pure_text 60 (by rfl) key
theorem texts1 {F : Nat → List AVal} {s : ByteArray} {r a b : Int} (hF : F 0 = [.lit (.int .u8 r), .lit (.int .i64 a), .lit (.int .i64 b)]) (h : AM.Pure Tryz.prog Γ 25 [.agg [.lit (.int .u8 r), .lit (.int .i64 a), .lit (.int .i64 b)]] (.tup [.lit (.string s), .lit (.int .i64 0)])) :
    AM.Pure Tryz.prog Γ 19 [.rd 3 1 F] (.rd 1 1 fun _ => [.lit (.string s)]) := by
  refine Pure_at Tryz.func19 rfl 25 rfl (Nat.le_of_ble_eq_true rfl) rfl fun k => ?_
  have kp : Kp [0,2,3,5,6,8,9,10,11] (fun i => i - k) := kpI
  refine wl ?_ <;> and_intros <;> first | exact hdT | (apply zM; (repeat intro ht); apply zM; (repeat intro hg); apply zM)
  refine C_rounds rfl 2 ?_
  refine AM.rounds_succ ?_
  have uU := @hF
  refine wl ?_ <;> and_intros <;> first | exact hdT | (apply zM; (repeat intro ht); apply zM; (repeat intro hg); apply zM)
  refine cl [.ret (.tup [.lit (.string s), .lit (.int .i64 0)])] ?_ <;> and_intros <;> first | exact hdT | (apply zM; (repeat intro ht); apply zM; (repeat intro hg); apply zM)
  all_goals (try exact h)
  refine wl ?_ <;> and_intros <;> first | exact hdT | (apply zM; (repeat intro ht); apply zM; (repeat intro hg); apply zM)
  refine W_mv (Mv.freeze (k + 2) (by simp -dsimp -implicitDefEqProofs only [go_sem, hF, eq_self, ↓reduceIte]; rfl) rfl) ?_; simp -dsimp -implicitDefEqProofs only [frzF, frz_app, go_sem, hF, eq_self, ↓reduceIte]
  have uU := @hF; refine cR ?_; apply zN
  exact VLe.rd fun i hi => by obtain rfl : i = 0 := by omega
                              rfl
theorem texts1o {s : ByteArray} {r a b : Int} (id k : Nat) (hk : id < k) (h : AM.Pure Tryz.prog Γ 25 [.agg [.lit (.int .u8 r), .lit (.int .i64 a), .lit (.int .i64 b)]] (.tup [.lit (.string s), .lit (.int .i64 0)])) :
    Tr Tryz.prog Γ 19 k [.sl id 0 1] [(id, ⟨3, true, [[.lit (.int .u8 r), .lit (.int .i64 a), .lit (.int .i64 b)]]⟩)] (fun k1 r1 H1 => k1 = k + 3 ∧ r1 = .rd 1 1 (fun i => [[AVal.lit (.string s)]].getD i []) ∧ H1 = [(id, ⟨3, true, [[.lit (.int .u8 r), .lit (.int .i64 a), .lit (.int .i64 b)]]⟩)]) := by
  obtain ⟨a1, a2, a3, a4, a5, a6⟩ := old_name hk
  refine Tr_at Tryz.func19 rfl 25 rfl (Nat.le_of_ble_eq_true rfl) (W_upM ?_)
  have kp : Kp [0,2,3,5,6,8,9,10,11] (fun i => i - k) := kpI
  have uU := zA @a1 (zA @a2 (zA @a3 (zA @a4 (zA @a5 @a6))))
  refine wl ?_ <;> and_intros <;> first | exact hdT | (apply zM; (repeat intro ht); apply zM; (repeat intro hg); apply zM)
  refine C_rounds rfl 2 ?_
  refine AM.rounds_succ ?_
  refine wl ?_ <;> and_intros <;> first | exact hdT | (apply zM; (repeat intro ht); apply zM; (repeat intro hg); apply zM)
  refine cl [.ret (.tup [.lit (.string s), .lit (.int .i64 0)])] ?_ <;> and_intros <;> first | exact hdT | (apply zM; (repeat intro ht); apply zM; (repeat intro hg); apply zM)
  all_goals (try exact h)
  refine wl ?_ <;> and_intros <;> first | exact hdT | (apply zM; (repeat intro ht); apply zM; (repeat intro hg); apply zM)
  refine W_mv (Mv.freeze (k + 2) (by simp -dsimp -implicitDefEqProofs only [go_sem, a1, a2, a3, a4, a5, a6, eq_self, ↓reduceIte]; rfl) rfl) ?_; simp -dsimp -implicitDefEqProofs only [frzF, frz_app, go_sem, a1, a2, a3, a4, a5, a6, eq_self, ↓reduceIte]
  refine C_ret rfl ?_
  refine ⟨k + 3, [(2, .rd 1 1 (fun i => [[AVal.lit (.string s)]].getD i []))], [(id, ⟨3, true, [[.lit (.int .u8 r), .lit (.int .i64 a), .lit (.int .i64 b)]]⟩)], ?_, _, rfl, rfl, rfl, rfl⟩
  exact Mv.wk (wk_low (by omega) (by simp -dsimp -implicitDefEqProofs only [go_sem, a1, a2, a3, a4, a5, a6, List.map_append, eq_self, ↓reduceIte]) (by simp -dsimp -implicitDefEqProofs only [go_sem, a1, a2, a3, a4, a5, a6, List.map_append, eq_self, ↓reduceIte]) (by simp -dsimp -implicitDefEqProofs only [go_sem, a1, a2, a3, a4, a5, a6, List.map_append, eq_self, ↓reduceIte]) (by simp -dsimp -implicitDefEqProofs only [go_sem, a1, a2, a3, a4, a5, a6, List.map_append, eq_self, ↓reduceIte]))
theorem sameTexts1 (s : ByteArray) (F G : Nat → List AVal) (hF : F 0 = [.lit (.string s)]) (hG : G 0 = [.lit (.string s)]) : AM.Pure Tryz.prog Γ 18 [.rd 1 1 F, .rd 1 1 G] (.lit (.bool true)) := by
  refine Pure_at Tryz.func18 rfl 26 rfl (Nat.le_of_ble_eq_true rfl) rfl fun k => ?_
  have kp : Kp [0,1,4,5,10,14,25] (fun i => i - k) := kpI
  have uU := zA @hF @hG
  refine wl ?_ <;> and_intros <;> first | exact hdT | (apply zM; (repeat intro ht); apply zM; (repeat intro hg); apply zM)
  refine C_rounds rfl 2 ?_
  refine AM.rounds_succ ?_
  refine wl ?_ <;> and_intros <;> first | exact hdT | (apply zM; (repeat intro ht); apply zM; (repeat intro hg); apply zM)
  refine C_ret rfl ⟨_, rfl, VLe.refl _⟩
end Go.Proofs.T
end
section
namespace Go.Proofs.T
open Go Go.AM Go.Proofs
set_option maxRecDepth 20000
variable {Γ : List (Nat × List AVal)}
attribute [local irreducible] putO del
set_option maxHeartbeats 4000000 in
theorem lshaped (L : LSt) (n : Nat) (h : Rt0 L n) : AM.Pure Tryz.prog Γ 17 [.agg L.st.cells] (.lit (.bool true)) := by
  have hn1 := h.n1
  have hn64 := h.n64
  have hns := h.ns
  have hns1 := h.ns1
  have hnt := h.nt
  have e1 : L.st.nk = n := h.nk
  have e2 : L.st.nu = n := h.nu
  have e3 : L.st.ns = L.sl.length := rfl
  have e4 : L.st.ng = L.sl.length := h.ng
  have e5 : L.st.nt = L.tl.length := rfl
  have e6 : ∀ g, g < L.sl.length → L.st.nsp g = n := h.rows
  refine Pure_at Tryz.func17 rfl 78 rfl (Nat.le_of_ble_eq_true rfl) rfl fun k => ?_
  have kp : Kp [0,1,2,3,5,7,35,37,38,39,40,46,49,50,51,52,76] (fun i => i - k) := kpI
  have uU := zA @e1 (zA @e2 (zA @e3 (zA @e4 @e5)))
  refine wl ?_ <;> and_intros <;> first | exact hdT | (apply zM; (repeat intro ht); apply zM; (repeat intro hg); apply zM)
  all_goals (try exact absurd trivial ‹¬True›)
  refine M_forO (X := Nat) rfl [0,1,2,3,5,7,35,37,38,39,40,46,49,50,51,52,76] (k + 1) (fun g => [(39, .lit (.int .i64 (g : Int)))]) (fun g => [(k, ⟨7, true, [L.st.cells]⟩)]) (fun g => g ≤ L.sl.length) (fun g => L.sl.length - g) 0 ?_ (Nat.zero_le _) ?_
  · refine rR ?_ <;> first | exact hdT | apply zN
    exact Mv.wk (wk_low (by omega) (by simp -dsimp -implicitDefEqProofs only [go_sem, e1, e2, e3, e4, e5, List.map_append, eq_self, ↓reduceIte]) (by simp -dsimp -implicitDefEqProofs only [go_sem, e1, e2, e3, e4, e5, List.map_append, eq_self, ↓reduceIte]) (by simp -dsimp -implicitDefEqProofs only [go_sem, e1, e2, e3, e4, e5, List.map_append, eq_self, ↓reduceIte]) (by simp -dsimp -implicitDefEqProofs only [go_sem, e1, e2, e3, e4, e5, List.map_append, eq_self, ↓reduceIte]))
  intro g hg
  refine rR ?_ <;> first | exact hdT | apply zN
  by_cases hgn : g < L.sl.length
  · have hr := e6 g hgn
    have uU := zA @e1 (zA @e2 (zA @e3 (zA @e4 (zA @e5 @hr))))
    refine wl ?_ <;> and_intros <;> first | exact hdT | (apply zM; (repeat intro ht); apply zM; (repeat intro hg); apply zM)
    refine ⟨g + 1, by omega, by omega, ?_⟩
    refine rR ?_ <;> first | exact hdT | apply zN
    exact Mv.wk (wk_low (by omega) (by simp -dsimp -implicitDefEqProofs only [go_sem, e1, e2, e3, e4, e5, hr, List.map_append, eq_self, ↓reduceIte]) (by simp -dsimp -implicitDefEqProofs only [go_sem, e1, e2, e3, e4, e5, hr, List.map_append, eq_self, ↓reduceIte]) (by simp -dsimp -implicitDefEqProofs only [go_sem, e1, e2, e3, e4, e5, hr, List.map_append, eq_self, ↓reduceIte]) (by simp -dsimp -implicitDefEqProofs only [go_sem, e1, e2, e3, e4, e5, hr, List.map_append, eq_self, ↓reduceIte]))
  · have hgn : g = L.sl.length := by omega
    subst hgn
    refine wl ?_ <;> and_intros <;> first | exact hdT | (apply zM; (repeat intro ht); apply zM; (repeat intro hg); apply zM)
    refine M_forO (X := Nat) rfl [0,1,2,3,5,7,35,37,38,39,40,46,49,50,51,52,76] (k + 1) (fun i => [(51, .lit (.int .i64 (i : Int)))]) (fun i => [(k, ⟨7, true, [L.st.cells]⟩)]) (fun i => i ≤ L.tl.length) (fun i => L.tl.length - i) 0 ?_ (Nat.zero_le _) ?_
    · refine rR ?_ <;> first | exact hdT | apply zN
      exact Mv.wk (wk_low (by omega) (by simp -dsimp -implicitDefEqProofs only [go_sem, e1, e2, e3, e4, e5, List.map_append, eq_self, ↓reduceIte]) (by simp -dsimp -implicitDefEqProofs only [go_sem, e1, e2, e3, e4, e5, List.map_append, eq_self, ↓reduceIte]) (by simp -dsimp -implicitDefEqProofs only [go_sem, e1, e2, e3, e4, e5, List.map_append, eq_self, ↓reduceIte]) (by simp -dsimp -implicitDefEqProofs only [go_sem, e1, e2, e3, e4, e5, List.map_append, eq_self, ↓reduceIte]))
    intro i hi
    refine rR ?_ <;> first | exact hdT | apply zN
    by_cases hin : i < L.tl.length
    · have ht := h.tk i hin
      have hg0 := ht.g0
      have hg1 := ht.g1
      have hc0 := ht.c0
      have hc1 := ht.c1
      obtain ⟨G, eG⟩ : ∃ G, G = (L.st.tsk i).group := ⟨_, rfl⟩
      obtain ⟨C, eC⟩ : ∃ C, C = (L.st.tsk i).cpu := ⟨_, rfl⟩
      have hg0 : 0 ≤ G := by rw [eG]; exact hg0
      have hg1 : G < L.sl.length := by rw [eG]; exact hg1
      have hc0 : 0 ≤ C := by rw [eC]; exact hc0
      have hc1 : C < n := by rw [eC]; exact hc1
      have eG' := eG.symm
      have eC' := eC.symm
      have uU := zA @e1 (zA @e2 (zA @e3 (zA @e4 (zA @e5 (zA @eG' @eC')))))
      refine wl ?_ <;> and_intros <;> first | exact hdT | (apply zM; (repeat intro ht); apply zM; (repeat intro hg); apply zM)
      all_goals (refine ⟨i + 1, by omega, by omega, ?_⟩; simp -dsimp -implicitDefEqProofs only [go_sem, e1, e2, e3, e4, e5, eG', eC', eq_self, ↓reduceIte]; exact Mv.wk (wk_low (by omega) (by simp -dsimp -implicitDefEqProofs only [go_sem, e1, e2, e3, e4, e5, eG', eC', List.map_append, eq_self, ↓reduceIte]) (by simp -dsimp -implicitDefEqProofs only [go_sem, e1, e2, e3, e4, e5, eG', eC', List.map_append, eq_self, ↓reduceIte]) (by simp -dsimp -implicitDefEqProofs only [go_sem, e1, e2, e3, e4, e5, eG', eC', List.map_append, eq_self, ↓reduceIte]) (by simp -dsimp -implicitDefEqProofs only [go_sem, e1, e2, e3, e4, e5, eG', eC', List.map_append, eq_self, ↓reduceIte])))
    · have hin : i = L.tl.length := by omega
      subst hin
      refine wl ?_ <;> and_intros <;> first | exact hdT | (apply zM; (repeat intro ht); apply zM; (repeat intro hg); apply zM)
      refine C_ret rfl ⟨_, rfl, VLe.refl _⟩
end Go.Proofs.T
end
section
namespace Go.Proofs.T
open Go Go.AM Go.Proofs
set_option maxRecDepth 20000
theorem bitB_test {m c : Nat} : bitB (m : Int) c = m.testBit c := by
  rw [bitB_nat, Nat.testBit_eq_decide_div_mod_eq]
theorem ofInt_bit {m c : Nat} (hm : m < 2 ^ 64) : (BitVec.ofInt 64 (m : Int)).getLsbD c = m.testBit c := by
  rw [BitVec.ofInt_natCast, BitVec.getLsbD_ofNat]
  by_cases h : c < 64
  · simp [h]
  · rw [Nat.testBit_lt_two_pow (Nat.lt_of_lt_of_le hm (Nat.pow_le_pow_right (by omega) (by omega)))]; simp
theorem mask_or {x : Int} {n : Nat} (h0 : 0 ≤ x) (h1 : x < 18446744073709551616) (hn : n < 64) :
    ∃ y, IntKind.u64.wrap ((BitVec.ofInt IntKind.u64.bits x ||| BitVec.ofInt IntKind.u64.bits ((2 ^ n : Nat) : Int)).toNat : Int) = y ∧ 0 ≤ y ∧ y < 18446744073709551616 ∧ ∀ c, bitB y c = (bitB x c || decide (c = n)) := by
  obtain ⟨m, rfl⟩ := Int.eq_ofNat_of_zero_le h0
  have hm : m < 2 ^ 64 := by omega
  have hp : 2 ^ n < 2 ^ 64 := Nat.pow_lt_pow_right (by omega) hn
  obtain ⟨b, eb⟩ : ∃ b : BitVec 64, b = BitVec.ofInt 64 (m : Int) ||| BitVec.ofInt 64 ((2 ^ n : Nat) : Int) := ⟨_, rfl⟩
  have hb : b.toNat < 2 ^ 64 := b.isLt
  refine ⟨(b.toNat : Int), ?_, by omega, by omega, fun c => ?_⟩
  · show IntKind.u64.wrap ((BitVec.ofInt 64 (m : Int) ||| BitVec.ofInt 64 ((2 ^ n : Nat) : Int)).toNat : Int) = _
    rw [← eb]
    exact wrap_u64 (by omega) (by omega)
  · rw [bitB_test, bitB_test, BitVec.testBit_toNat, eb, BitVec.getLsbD_or, ofInt_bit hm, ofInt_bit hp, Nat.testBit_two_pow]
    congr 1
    rw [Bool.eq_iff_iff, decide_eq_true_eq, decide_eq_true_eq]
    exact eq_comm
theorem mask_not {x : Int} {n : Nat} (h0 : 0 ≤ x) (h1 : x < 18446744073709551616) (hn : n < 64) :
    ∃ y, IntKind.u64.wrap ((BitVec.ofInt IntKind.u64.bits x &&& ~~~(BitVec.ofInt IntKind.u64.bits ((2 ^ n : Nat) : Int))).toNat : Int) = y ∧ 0 ≤ y ∧ y < 18446744073709551616 ∧ ∀ c, c < 64 → bitB y c = (bitB x c && !decide (c = n)) := by
  obtain ⟨m, rfl⟩ := Int.eq_ofNat_of_zero_le h0
  have hm : m < 2 ^ 64 := by omega
  have hp : 2 ^ n < 2 ^ 64 := Nat.pow_lt_pow_right (by omega) hn
  obtain ⟨b, eb⟩ : ∃ b : BitVec 64, b = BitVec.ofInt 64 (m : Int) &&& ~~~(BitVec.ofInt 64 ((2 ^ n : Nat) : Int)) := ⟨_, rfl⟩
  have hb : b.toNat < 2 ^ 64 := b.isLt
  refine ⟨(b.toNat : Int), ?_, by omega, by omega, fun c hc => ?_⟩
  · show IntKind.u64.wrap ((BitVec.ofInt 64 (m : Int) &&& ~~~(BitVec.ofInt 64 ((2 ^ n : Nat) : Int))).toNat : Int) = _
    rw [← eb]
    exact wrap_u64 (by omega) (by omega)
  · rw [bitB_test, bitB_test, BitVec.testBit_toNat, eb, BitVec.getLsbD_and, BitVec.getLsbD_not, ofInt_bit hm, ofInt_bit hp, Nat.testBit_two_pow]
    have e : decide (n = c) = decide (c = n) := by rw [Bool.eq_iff_iff, decide_eq_true_eq, decide_eq_true_eq]; exact eq_comm
    rw [e]
    simp [hc]
theorem shl_one {n : Nat} (hn : n < 64) : IntKind.u64.wrap (1 * 2 ^ min ((n : Int)).toNat 64) = ((2 ^ n : Nat) : Int) := by
  have hp : 2 ^ n < 2 ^ 64 := Nat.pow_lt_pow_right (by omega) hn
  have e : min ((n : Int)).toNat 64 = n := by omega
  rw [e, Int.one_mul]
  have e2 : ((2 : Int) ^ n) = ((2 ^ n : Nat) : Int) := by simp
  rw [e2]
  generalize 2 ^ n = p at hp
  exact wrap_u64 (by omega) (by omega)
theorem wide_bits {x : Int} {n : Nat} (h0 : 0 ≤ x) (h1 : x < 18446744073709551616) (h : x / 2 ^ n = 0) (c : Nat) (hc : n ≤ c) : bitB x c = false := by
  obtain ⟨m, rfl⟩ := Int.eq_ofNat_of_zero_le h0
  rw [bitB_test]
  have hm : m < 2 ^ n := by
    have e : ((m : Int) / 2 ^ n) = ((m / 2 ^ n : Nat) : Int) := by simp
    rw [e] at h
    have : m / 2 ^ n = 0 := by omega
    exact (Nat.div_eq_zero_iff.1 this).resolve_left (by have := Nat.pow_pos (n := n) (show 0 < 2 by omega); omega)
  exact Nat.testBit_lt_two_pow (Nat.lt_of_lt_of_le hm (Nat.pow_le_pow_right (by omega) hc))
end Go.Proofs.T
end
section
namespace Go.Proofs.T
open Go Go.AM Go.Proofs
set_option maxRecDepth 20000
theorem shapes_no {s : St} (h1 : (s.nk : Int) = s.cpus) (h2 : (s.nu : Int) = s.cpus) (h3 : s.ns = s.ng) (h4 : ∀ g, g < s.ns → (s.nsp g : Int) = s.cpus) : shapesL s = [] := by
  unfold shapesL
  rw [if_neg (fun e => e h1), if_neg (fun e => e h2), if_neg (fun e => e h3)]
  simp only [List.nil_append]
  exact flats_nil_iff.2 fun g hg => by unfold shapeAt; rw [if_pos (h4 g hg)]
theorem check_one {s : St} {f : Flt} (hc : refCfg s = true) (hs : shapesL s = []) (hp : partsL s = [f]) : checkR s = [f] := by
  unfold checkR
  rw [if_neg (by rw [hc]; simp), hs, hp, if_neg (by simp), if_pos (by simp)]
theorem Rt0.five {L : LSt} {n : Nat} (h : Rt0 L n) : flats (clockAt L.st) L.st.nk = [] ∧ flats (brkR L.st) 7 = [] ∧ flats (sptR L.st) L.st.ns = [] ∧ flats (rootAt L.st) L.st.cpus.toNat = [] ∧ flats (curAt L.st) L.st.cpus.toNat = [] := by
  have h5 := h.parts_nil
  unfold partsL at h5
  simp only [List.append_eq_nil_iff] at h5
  exact h5
theorem Rt0.cpn {L : LSt} {n : Nat} (h : Rt0 L n) : L.st.cpus.toNat = n := by show L.cpus.toNat = n; have := h.cpus; omega
theorem one_clock {L : LSt} {n c : Nat} {v : Int} (h : Rt L n) (hc : c < n) (hv : v < 0) : checkR (L.setK c v).st = [⟨3, (c : Int), 0⟩] := by
  have h0 := h.r0
  have hk := h0.nk
  have hcp := h0.cpus
  obtain ⟨e1, e2, e3, e4, e5⟩ := h0.five
  have hl : (L.setK c v).st.nk = n := by show (L.kl.set c v).length = n; rw [List.length_set, hk]
  refine check_one h.cfg (shapes_no (by rw [hl]; exact hcp.symm) (by show (L.ul.length : Int) = L.cpus; rw [h0.nu, hcp]) h0.ng.symm (fun g hg => by show ((L.sl.getD g []).length : Int) = L.cpus; rw [h0.rows g hg, hcp])) ?_
  show flats (clockAt (L.setK c v).st) (L.setK c v).st.nk ++ (flats (brkR L.st) 7 ++ (flats (sptR L.st) L.st.ns ++ (flats (rootAt L.st) L.st.cpus.toNat ++ flats (curAt L.st) L.st.cpus.toNat))) = _
  rw [e2, e3, e4, e5, hl, flats_one hc (fun j hj hne => ?_)]
  · have e : (L.setK c v).st.clk c = v := by show (L.setK c v).clk c = v; rw [setK_clk (by omega), if_pos rfl]
    unfold clockAt
    rw [e, iff1, if_pos (by simp; omega)]
    rfl
  · have e : (L.setK c v).st.clk j = L.clk j := by show (L.setK c v).clk j = _; rw [setK_clk (by omega), if_neg hne]
    have := h0.clk j hj
    unfold clockAt
    rw [iff1_nil, e, decide_eq_false_iff_not]
    omega
theorem one_cur {L : LSt} {n c : Nat} (h : Rt L n) (hc : c < n) : checkR ((L.setK c 0).setU c 65536).st = [⟨13, (c : Int), 0⟩] := by
  have h0 := h.r0
  have hk := h0.nk
  have hu := h0.nu
  have hcp := h0.cpus
  obtain ⟨e1, e2, e3, e4, e5⟩ := h0.five
  obtain ⟨M, eM⟩ : ∃ M, M = (L.setK c 0).setU c 65536 := ⟨_, rfl⟩
  have hl : M.st.nk = n := by rw [eM]; show (L.kl.set c 0).length = n; rw [List.length_set, hk]
  have hl2 : M.st.nu = n := by rw [eM]; show (L.ul.set c 65536).length = n; rw [List.length_set, hu]
  rw [← eM]
  refine check_one (by rw [eM]; exact h.cfg) (shapes_no (by rw [hl, eM]; exact hcp.symm) (by rw [hl2, eM]; exact hcp.symm) (by rw [eM]; exact h0.ng.symm) (fun g hg => by rw [eM] at hg ⊢; show ((L.sl.getD g []).length : Int) = L.cpus; rw [h0.rows g hg, hcp])) ?_
  have eb : flats (brkR M.st) 7 ++ (flats (sptR M.st) M.st.ns ++ (flats (rootAt M.st) M.st.cpus.toNat ++ flats (curAt M.st) M.st.cpus.toNat)) = flats (brkR L.st) 7 ++ (flats (sptR L.st) L.st.ns ++ (flats (rootAt L.st) L.st.cpus.toNat ++ flats (curAt M.st) L.st.cpus.toNat)) := by rw [eM]; rfl
  unfold partsL
  rw [eb, e2, e3, e4, hl, h0.cpn, flats_nil_iff.2 (fun j hj => ?_), flats_one hc (fun j hj hne => ?_)]
  · have e : M.st.cur c = 65536 := by rw [eM]; show ((L.setK c 0).setU c 65536).cur c = _; rw [setU_cur (by show c < L.ul.length; omega), if_pos rfl]
    have ea : anyB (isReady M.st 65536 c) M.st.nt = false := anyB_false fun j hj => by
      have hj : j < L.tl.length := by rw [eM] at hj; exact hj
      have := (h0.tk j hj).id2
      simp only [isReady, Bool.and_eq_false_iff, decide_eq_false_iff_not]
      left
      rw [eM]
      show ¬ (L.tsk j).id = 65536
      omega
    unfold curAt
    rw [e, ea]
    rfl
  · have e : M.st.cur j = L.st.cur j := by rw [eM]; show ((L.setK c 0).setU c 65536).cur j = L.cur j; rw [setU_cur (by show c < L.ul.length; omega), if_neg hne]; rfl
    have := flats_nil_iff.1 e5 j (by rw [h0.cpn]; exact hj)
    unfold curAt at this ⊢
    rw [e]
    have er : isReady M.st (L.st.cur j) j = isReady L.st (L.st.cur j) j := by rw [eM]; rfl
    rw [er, show M.st.nt = L.st.nt by rw [eM]; rfl]
    exact this
  · have e : M.st.clk j = (L.setK c 0).clk j := by rw [eM]; rfl
    unfold clockAt
    rw [iff1_nil, e, setK_clk (by omega), decide_eq_false_iff_not]
    have := h0.clk j hj
    split <;> omega
theorem brk_else {L : LSt} {i j : Nat} {t : Tk} (hi : i < L.tl.length) (hid : t.id = (L.tsk i).id) (hj : j ≠ i) (r : Int) : brk (L.setT i t).st j r = brk L.st j r := by
  have e : (L.setT i t).st.tsk j = L.st.tsk j := by show (L.setT i t).tsk j = L.tsk j; rw [setT_tsk hi, if_neg hj]
  have e2 : ((L.setT i t).st.tsk (j - 1)).id = (L.st.tsk (j - 1)).id := by
    show ((L.setT i t).tsk (j - 1)).id = (L.tsk (j - 1)).id
    rw [setT_tsk hi]
    split
    · rename_i e; rw [e, hid]
    · rfl
  have e3 : wideB (L.setT i t).st j = wideB L.st j := funext fun c => by unfold wideB; rw [e]; rfl
  unfold brk t4 t5 t6 t7 r8 r9 t10 onB
  rw [e, e2, e3]
  rfl
theorem one_task {L : LSt} {n i : Nat} {t : Tk} (h : Rt L n) (hi : i < L.tl.length) (hid : t.id = (L.tsk i).id) (hrd : t.ready = (L.tsk i).ready) (hcp : t.cpu = (L.tsk i).cpu) (r0 : Nat) (hr0 : r0 < 7)
    (hb : ∀ r : Nat, r < 7 → brk (L.setT i t).st i ((r : Int) + 4) = decide (r = r0)) : checkR (L.setT i t).st = [⟨(r0 : Int) + 4, (i : Int), 0⟩] := by
  have h0 := h.r0
  have hcpu := h0.cpus
  obtain ⟨e1, e2, e3, e4, e5⟩ := h0.five
  obtain ⟨M, eM⟩ : ∃ M, M = L.setT i t := ⟨_, rfl⟩
  have hel := fun j hj r => brk_else (t := t) hi hid (j := j) hj r
  have hti : ∀ j, ((L.setT i t).tsk j).id = (L.tsk j).id ∧ ((L.setT i t).tsk j).ready = (L.tsk j).ready ∧ ((L.setT i t).tsk j).cpu = (L.tsk j).cpu := fun j => by
    rw [setT_tsk hi]
    split
    · rename_i e; rw [e]; exact ⟨hid, hrd, hcp⟩
    · exact ⟨rfl, rfl, rfl⟩
  rw [← eM] at hb hel hti ⊢
  have hnt : M.st.nt = L.st.nt := by rw [eM]; exact setT_len
  refine check_one (by rw [eM]; exact h.cfg) (shapes_no (by rw [eM]; show (L.kl.length : Int) = L.cpus; rw [h0.nk, hcpu]) (by rw [eM]; show (L.ul.length : Int) = L.cpus; rw [h0.nu, hcpu]) (by rw [eM]; exact h0.ng.symm) (fun g hg => by rw [eM] at hg ⊢; show ((L.sl.getD g []).length : Int) = L.cpus; rw [h0.rows g hg, hcpu])) ?_
  have ea : partsL M.st = flats (clockAt L.st) L.st.nk ++ (flats (brkR M.st) 7 ++ (flats (sptR L.st) L.st.ns ++ (flats (rootAt L.st) L.st.cpus.toNat ++ flats (curAt M.st) L.st.cpus.toNat))) := by rw [eM]; rfl
  have ec : flats (curAt M.st) L.st.cpus.toNat = flats (curAt L.st) L.st.cpus.toNat := flats_congr fun c _ => by
    have er : ∀ id c, isReady M.st id c = isReady L.st id c := fun id c => funext fun j => by
      obtain ⟨a1, a2, a3⟩ := hti j
      unfold isReady
      have b1 : (M.st.tsk j).id = (L.st.tsk j).id := a1
      have b2 : (M.st.tsk j).ready = (L.st.tsk j).ready := a2
      have b3 : (M.st.tsk j).cpu = (L.st.tsk j).cpu := a3
      rw [b1, b2, b3]
    unfold curAt
    rw [show M.st.cur c = L.st.cur c by rw [eM]; rfl, er, hnt]
  have er : flats (brkR M.st) 7 = [⟨(r0 : Int) + 4, (i : Int), 0⟩] := by
    rw [flats_one hr0 (fun r hr hne => ?_)]
    · unfold brkR
      rw [hnt, flats_one (show i < L.st.nt from hi) (fun j hj hne => ?_)]
      · unfold brkAt; rw [hb r0 hr0, decide_eq_true rfl]; rfl
      · unfold brkAt; rw [iff1_nil, hel j hne]; exact h0.brk_no hj _
    · unfold brkR
      rw [hnt]
      refine flats_nil_iff.2 fun j hj => ?_
      unfold brkAt
      rw [iff1_nil]
      by_cases e : j = i
      · rw [e, hb r hr]; exact decide_eq_false hne
      · rw [hel j e]; exact h0.brk_no hj _
  rw [ea, ec, er, e1, e3, e4, e5]
  rfl
end Go.Proofs.T
end
section
namespace Go.Proofs.T
open Go Go.AM Go.Proofs
set_option maxRecDepth 20000
theorem brk_here {L : LSt} {n i : Nat} {t : Tk} (h : Rt L n) (hi : i < L.tl.length) (hid : t.id = (L.tsk i).id) (hgr : t.group = (L.tsk i).group) (hcp : t.cpu = (L.tsk i).cpu) (r0 : Nat) (hr0 : 4 ≤ r0)
    (h8 : anyB (wideB (L.setT i t).st i) 64 = decide (r0 = 4)) (h9 : bitB t.mask t.cpu.toNat = !(decide (r0 = 5))) (h10 : ent t.v t.r t.weight = !(decide (r0 = 6))) :
    ∀ r : Nat, r < 7 → brk (L.setT i t).st i ((r : Int) + 4) = decide (r = r0) := fun r hr => by
  have e : (L.setT i t).st.tsk i = t := by show (L.setT i t).tsk i = t; rw [setT_tsk hi, if_pos rfl]
  have e2 : ((L.setT i t).st.tsk (i - 1)).id = (L.st.tsk (i - 1)).id := by
    show ((L.setT i t).tsk (i - 1)).id = (L.tsk (i - 1)).id
    rw [setT_tsk hi]
    split
    · rename_i e; rw [e, hid]
    · rfl
  have hno := fun r => h.r0.brk_no hi r
  have hon : onB (L.setT i t).st i = onB L.st i := by unfold onB; rw [e, hcp]; rfl
  match r, hr with
  | 0, _ =>
    show brk (L.setT i t).st i 4 = _
    rw [brk4 rfl, decide_eq_false (by omega), ← hno 4, brk4 rfl]
    unfold t4
    rw [e, e2, hid]; rfl
  | 1, _ =>
    show brk (L.setT i t).st i 5 = _
    rw [brk5 rfl, decide_eq_false (by omega), ← hno 5, brk5 rfl]
    unfold t5
    rw [e, hid]; rfl
  | 2, _ =>
    show brk (L.setT i t).st i 6 = _
    rw [brk6 rfl, decide_eq_false (by omega), ← hno 6, brk6 rfl]
    unfold t6
    rw [e, hgr]; rfl
  | 3, _ =>
    show brk (L.setT i t).st i 7 = _
    rw [brk7 rfl, decide_eq_false (by omega), ← hno 7, brk7 rfl]
    unfold t7
    rw [hon]
  | 4, _ =>
    show brk (L.setT i t).st i 8 = _
    rw [brk8 rfl]
    unfold r8
    rw [h8]
    congr 1
    exact propext eq_comm
  | 5, _ =>
    show brk (L.setT i t).st i 9 = _
    have h7 := hno 7
    rw [brk7 rfl, t7, Bool.not_eq_false'] at h7
    rw [brk9 rfl, r9, hon, h7, e, h9]
    simp only [Bool.true_and, Bool.not_not]
    congr 1
    exact propext eq_comm
  | 6, _ =>
    show brk (L.setT i t).st i 10 = _
    rw [brk10 (by decide) (by decide) (by decide) (by decide) (by decide) (by decide), t10, e, h10]
    simp only [Bool.not_not]
    congr 1
    exact propext eq_comm
theorem wide_no {L : LSt} {n i : Nat} {t : Tk} (hcpu : L.cpus = (n : Int)) (hi : i < L.tl.length) (hb : ∀ c, n ≤ c → c < 64 → bitB t.mask c = false) : anyB (wideB (L.setT i t).st i) 64 = false := anyB_false fun c hc => by
  have e : (L.setT i t).st.tsk i = t := by show (L.setT i t).tsk i = t; rw [setT_tsk hi, if_pos rfl]
  unfold wideB
  rw [e, Bool.and_eq_false_iff, decide_eq_false_iff_not]
  by_cases h : n ≤ c
  · exact .inr (hb c h hc)
  · left
    show ¬ L.cpus ≤ (c : Int)
    omega
theorem one_wide {L : LSt} {n i : Nat} {y : Int} (h : Rt L n) (hi : i < L.tl.length) (hn : n < 64) (hy : ∀ c, bitB y c = (bitB (L.tsk i).mask c || decide (c = n))) : checkR (L.setT i { L.tsk i with mask := y }).st = [⟨8, (i : Int), 0⟩] := by
  have t := h.r0.tk i hi
  refine one_task (t := { L.tsk i with mask := y }) h hi rfl rfl rfl 4 (by omega) (brk_here (t := { L.tsk i with mask := y }) h hi rfl rfl rfl 4 (by omega) ?_ ?_ ?_)
  · rw [decide_eq_true rfl, anyB_iff]
    refine ⟨n, hn, ?_⟩
    have e : (L.setT i { L.tsk i with mask := y }).st.tsk i = { L.tsk i with mask := y } := by show (L.setT i _).tsk i = _; rw [setT_tsk hi, if_pos rfl]
    unfold wideB
    rw [e]
    show (decide (L.cpus ≤ (n : Int)) && bitB y n) = true
    rw [hy, h.r0.cpus]
    simp
  · show bitB y _ = _
    rw [hy]
    have : bitB (L.tsk i).mask (L.tsk i).cpu.toNat = true := by simp only [bitB, decide_eq_true_eq]; exact t.m3
    rw [this]
    rfl
  · exact t.e
theorem one_place {L : LSt} {n i : Nat} {y : Int} (h : Rt L n) (hi : i < L.tl.length) (hy : ∀ c, c < 64 → bitB y c = (bitB (L.tsk i).mask c && !decide (c = (L.tsk i).cpu.toNat))) : checkR (L.setT i { L.tsk i with mask := y }).st = [⟨9, (i : Int), 0⟩] := by
  have t := h.r0.tk i hi
  have hn := h.r0.n64
  have hc0 := t.c0
  have hc1 := t.c1
  refine one_task (t := { L.tsk i with mask := y }) h hi rfl rfl rfl 5 (by omega) (brk_here (t := { L.tsk i with mask := y }) h hi rfl rfl rfl 5 (by omega) ?_ ?_ ?_)
  · rw [wide_no h.r0.cpus hi fun c h1 h2 => ?_]
    · rfl
    · show bitB y c = false
      rw [hy c h2, wide_bits t.m0 t.m1 t.m2 c h1]; rfl
  · show bitB y (L.tsk i).cpu.toNat = _
    rw [hy _ (by omega)]
    simp
  · exact t.e
theorem one_rest {L : LSt} {n i : Nat} (h : Rt L n) (hi : i < L.tl.length) : checkR (L.setT i { L.tsk i with r := (L.tsk i).weight }).st = [⟨10, (i : Int), 0⟩] := by
  have t := h.r0.tk i hi
  refine one_task (t := { L.tsk i with r := (L.tsk i).weight }) h hi rfl rfl rfl 6 (by omega) (brk_here (t := { L.tsk i with r := (L.tsk i).weight }) h hi rfl rfl rfl 6 (by omega) ?_ ?_ ?_)
  · rw [wide_no h.r0.cpus hi fun c h1 h2 => ?_]
    · rfl
    · exact wide_bits t.m0 t.m1 t.m2 c h1
  · show bitB (L.tsk i).mask (L.tsk i).cpu.toNat = _
    have : bitB (L.tsk i).mask (L.tsk i).cpu.toNat = true := by simp only [bitB, decide_eq_true_eq]; exact t.m3
    rw [this]
    rfl
  · show ent (L.tsk i).v (L.tsk i).weight (L.tsk i).weight = _
    rw [show ent (L.tsk i).v (L.tsk i).weight (L.tsk i).weight = false by simp only [ent, decide_eq_false_iff_not]; omega]
    rfl
theorem one_root {L : LSt} {n c : Nat} (h : Rt L n) (hc : c < n) : checkR (L.setS 0 c { L.sp 0 c with v := 1 }).st = [⟨12, (c : Int), 0⟩] := by
  have h0 := h.r0
  have hcpu := h0.cpus
  have hn1 := h0.ns1
  obtain ⟨e1, e2, e3, e4, e5⟩ := h0.five
  have hcr : c < (L.sl.getD 0 []).length := by rw [h0.rows 0 (by omega)]; exact hc
  obtain ⟨M, eM⟩ : ∃ M, M = L.setS 0 c { L.sp 0 c with v := 1 } := ⟨_, rfl⟩
  have hsp : ∀ g d, M.st.sp g d = if g = 0 ∧ d = c then { L.sp 0 c with v := 1 } else L.st.sp g d := fun g d => by rw [eM]; exact setS_sp (by omega) hcr
  have hl : M.st.ns = L.st.ns := by rw [eM]; exact setS_len
  have hr : ∀ g, M.st.nsp g = L.st.nsp g := fun g => by rw [eM]; exact setS_rows
  rw [← eM]
  refine check_one (by rw [eM]; exact h.cfg) (shapes_no (by rw [eM]; show (L.kl.length : Int) = L.cpus; rw [h0.nk, hcpu]) (by rw [eM]; show (L.ul.length : Int) = L.cpus; rw [h0.nu, hcpu]) (by rw [hl, eM]; exact h0.ng.symm) (fun g hg => by rw [hr, eM]; rw [hl] at hg; show ((L.sl.getD g []).length : Int) = L.cpus; rw [h0.rows g hg, hcpu])) ?_
  have ea : partsL M.st = flats (clockAt L.st) L.st.nk ++ (flats (brkR L.st) 7 ++ (flats (sptR M.st) M.st.ns ++ (flats (rootAt M.st) L.st.cpus.toNat ++ flats (curAt L.st) L.st.cpus.toNat))) := by rw [eM]; rfl
  have es : flats (sptR M.st) M.st.ns = flats (sptR L.st) L.st.ns := by
    rw [hl]
    refine flats_congr fun g _ => ?_
    unfold sptR
    split
    · rfl
    · rename_i hg
      rw [hr]
      refine flats_congr fun d _ => ?_
      unfold sptAt
      rw [hsp, if_neg (fun e => hg e.1), show M.st.wt g = L.st.wt g by rw [eM]; rfl]
  have er : flats (rootAt M.st) L.st.cpus.toNat = [⟨12, (c : Int), 0⟩] := by
    rw [h0.cpn, flats_one hc (fun d hd hne => ?_)]
    · unfold rootAt
      rw [hsp, if_pos ⟨rfl, rfl⟩, iff1, if_pos (by simp)]
    · have := flats_nil_iff.1 e4 d (by rw [h0.cpn]; exact hd)
      unfold rootAt at this ⊢
      rw [hsp, if_neg (fun e => hne e.2)]
      exact this
  rw [ea, es, er, e1, e2, e3, e5]
  rfl
theorem one_floor {L : LSt} {n i g c : Nat} (h : Rt L n) (h12 : L.sl.length ≤ 12) (hi : i < L.tl.length) (hg : (L.tsk i).group = (g : Int)) (hc : (L.tsk i).cpu = (c : Int)) (hrd : (L.tsk i).ready = true) (hv : (L.tsk i).v ≠ 0)
    (halone : ∀ j, j < L.tl.length → j ≠ i → ¬ ((L.tsk j).ready = true ∧ (L.tsk j).group = (g : Int) ∧ (L.tsk j).cpu = (c : Int))) (hkids : ∀ h, 0 < h → h < L.gl.length → L.par h ≠ (g : Int)) :
    checkR (L.setS g c { L.sp g c with floor := (L.tsk i).v - 1 }).st = [⟨14, (g : Int), (c : Int)⟩] := by
  have h0 := h.r0
  have t := h0.tk i hi
  have hg1 : g < L.sl.length := by have := t.g1; omega
  have hc1 : c < n := by have := t.c1; omega
  have hcr : c < (L.sl.getD g []).length := by rw [h0.rows g hg1]; exact hc1
  have hv0 := t.v0
  have hv1 := t.v1
  obtain ⟨a1, a2, a3, a4, a5, a6⟩ := h0.sp g c hg1 hc1
  obtain ⟨M, eM⟩ : ∃ M, M = L.setS g c { L.sp g c with floor := (L.tsk i).v - 1 } := ⟨_, rfl⟩
  have hM : Rt0 M n := by
    rw [eM]
    exact h0.setS hg1 hc1 ⟨a1, a2, a3, a4, by show 0 ≤ (L.tsk i).v - 1; omega, by show (L.tsk i).v - 1 ≤ _; omega⟩ (fun e => by subst e; exact h0.root c hc1)
  have hsp : ∀ a d, M.sp a d = if a = g ∧ d = c then { L.sp g c with floor := (L.tsk i).v - 1 } else L.sp a d := fun a d => by rw [eM]; exact setS_sp hg1 hcr
  have hSame : SameQ L M := ⟨by rw [eM]; rfl, by rw [eM]; exact setS_len, by rw [eM]; rfl, fun a d => by
    rw [hsp]
    split
    · rename_i e; rw [e.1, e.2]
    · rfl⟩
  have hl : M.sl.length = L.sl.length := hSame.ns
  have hlst : ∃ x, lst L g c = some x ∧ x.v = (L.tsk i).v := by
    have hm := leastF_min (h0.floorOk h12) c L.sl.length g hg1 (by omega)
    have hin : into L.st c (L.sl.length - 1 - g) g (L.tsk i).v := .inl ⟨i, hi, by simp only [takes, Bool.and_eq_true, decide_eq_true_eq]; exact ⟨hrd, hc⟩, by show (L.tsk i).group.toNat = g; omega, rfl⟩
    cases hl : lst L g c with
    | none =>
      rw [show leastF L L.sl.length g c = none from hl] at hm
      exact absurd hin (hm _)
    | some x =>
      refine ⟨x, rfl, ?_⟩
      rw [show leastF L L.sl.length g c = some x from hl] at hm
      have h1 : into L.st c (L.sl.length - 1 - g) g x.v := hm.1
      rcases h1 with ⟨j, h1, h2, h3, h4⟩ | ⟨q, h1, h2, h3, h4, h5⟩
      · by_cases e : j = i
        · rw [h4, e]; rfl
        · have ht := h0.tk j h1
          simp only [takes, Bool.and_eq_true, decide_eq_true_eq] at h2
          have h3' : (L.tsk j).group.toNat = g := h3
          have := ht.g0
          exact absurd ⟨h2.1, by omega, h2.2⟩ (halone j h1 e)
      · have h2' : 0 < L.sl.length - 1 - q := h2
        have h4' : (L.par (L.sl.length - 1 - q)).toNat = g := h4
        have hp := h0.par _ h2' (by omega)
        exact absurd (by omega) (hkids (L.sl.length - 1 - q) h2' (by rw [h0.ng]; omega))
  obtain ⟨x, hx, hxv⟩ := hlst
  rw [← eM, hM.check (by omega) (by rw [eM]; exact h.cfg), hl, flats_one hg1 (fun a ha hne => ?_)]
  · rw [flats_one hc1 (fun d hd hne => ?_)]
    · unfold flrL
      rw [lst_same hSame, hx]
      show iff1 (decide ((M.sp g c).floor < x.v)) _ = _
      rw [hsp, if_pos ⟨rfl, rfl⟩, iff1, if_pos (by simp only [decide_eq_true_eq]; omega)]
    · rw [flrL_nil, lst_same hSame, hsp, if_neg (fun e => hne e.2)]
      exact h.fl g d hg1 hd
  · refine flats_nil_iff.2 fun d hd => ?_
    rw [flrL_nil, lst_same hSame, hsp, if_neg (fun e => hne e.1)]
    exact h.fl a d ha hd
end Go.Proofs.T
end
section
namespace Go.Proofs.T
open Go Go.AM Go.Proofs
set_option maxRecDepth 20000
theorem PreOk.of {s s' : St} (h : PreOk s) (e1 : s'.ng = s.ng) (e2 : s'.nk = s.nk) (e3 : s'.nu = s.nu) (e4 : s'.nt = s.nt) (e5 : s'.ns = s.ns) (e6 : ∀ g, s'.nsp g = s.nsp g) : PreOk s' :=
  ⟨⟨by rw [e1]; exact h.sm.ng, by rw [e2]; exact h.sm.nk, by rw [e3]; exact h.sm.nu, by rw [e4]; exact h.sm.nt, by rw [e5]; exact h.sm.ns, fun g hg => by rw [e6]; exact h.sm.nsp g (by omega)⟩, by rw [e5]; exact h.n12, fun g hg => by rw [e6]; exact h.p12 g (by omega)⟩
theorem Kinds.of {s' : St} (ht : ∀ i, 0 ≤ (s'.tsk i).mask ∧ (s'.tsk i).mask < 18446744073709551616 ∧ (s'.tsk i).v ≤ 18446744073709551615 ∧ 0 ≤ (s'.tsk i).r) (hs : ∀ g c, 0 ≤ (s'.sp g c).v ∧ (s'.sp g c).v ≤ 18446744073709551615 ∧ 0 ≤ (s'.sp g c).r) : Kinds s' :=
  ⟨⟨fun i => (ht i).1, fun i => (ht i).2.1, fun i => (ht i).2.2.1, fun i => (ht i).2.2.2, fun g c => (hs g c).2.1, fun g c => (hs g c).2.2⟩, fun g c => (hs g c).1⟩
theorem give1 {b n g0 k : Nat} {L M : LSt} {f : Flt} (hg0 : g0 < L.sl.length) (hns : M.sl.length = L.sl.length) (hrow : ∀ g, g < M.sl.length → (M.sl.getD g []).length = n) (hp : PreOk M.st) (hk : Kinds M.st) (hc : checkR M.st = [f]) (hR : w1R b M = w1R b L) {H : Heap} (hH : w1H b n g0 M [] = H) :
    Tr Tryz.prog [] 20 k [.agg (w1R b L)] H (fun k1 r1 H1 => k1 = k ∧ r1 = .rd 3 1 (fun i => [Flt.row f].getD i []) ∧ H1 = []) := by
  have h := Tr_give (k := k) (BorL.one (w1_bor (b := b) (n := n) (g0 := g0) (L := M) (Γ := []) (by omega) hrow)) (check_eq M.st hp hk)
  rw [hc, hR, hH] at h
  exact h
theorem give0 {b n g0 k : Nat} {L M : LSt} {f : Flt} (hg0 : g0 < L.sl.length) (hns : M.sl.length = L.sl.length) (hrow : ∀ g, g < M.sl.length → (M.sl.getD g []).length = n) (hp : PreOk M.st) (hk : Kinds M.st) (hc : checkR M.st = [f]) (hR : w0R b M = w0R b L) {H : Heap} (hH : w0H b n g0 M [] = H) :
    Tr Tryz.prog [] 20 k [.agg (w0R b L)] H (fun k1 r1 H1 => k1 = k ∧ r1 = .rd 3 1 (fun i => [Flt.row f].getD i []) ∧ H1 = []) := by
  have h := Tr_give (k := k) (BorL.one (w0_bor (b := b) (n := n) (g0 := g0) (L := M) (Γ := []) (by omega) hrow)) (check_eq M.st hp hk)
  rw [hc, hR, hH] at h
  exact h
theorem in3 {r a : Nat} (hr : r = 3 ∨ r = 12 ∨ r = 13) (h : a < 4) : (r, a, 0) ∈ smallF :=
  List.mem_append.2 (.inl (List.mem_append.2 (.inl (List.mem_flatMap.2 ⟨a, List.mem_range.2 h, by rcases hr with rfl | rfl | rfl <;> simp⟩))))
theorem in8 {r a : Nat} (hr : r = 8 ∨ r = 9 ∨ r = 10) (h : a < 40) : (r, a, 0) ∈ smallF :=
  List.mem_append.2 (.inl (List.mem_append.2 (.inr (List.mem_flatMap.2 ⟨a, List.mem_range.2 h, by rcases hr with rfl | rfl | rfl <;> simp⟩))))
theorem in14 {a b : Nat} (h : a < 6) (h' : b < 4) : (14, a, b) ∈ smallF :=
  List.mem_append.2 (.inr (List.mem_flatMap.2 ⟨a, List.mem_range.2 h, List.mem_map.2 ⟨b, List.mem_range.2 h', rfl⟩⟩))
theorem klR_setK {L : LSt} {c : Nat} {v : Int} : klR (L.setK c v) = (klR L).set c [.lit (.int .i64 v)] := by
  simp [klR, LSt.setK, inc, List.map_set]
theorem ulR_setU {L : LSt} {c : Nat} {v : Int} : ulR (L.setU c v) = (ulR L).set c [.lit (.int .i64 v)] := by
  simp [ulR, LSt.setU, inc, List.map_set]
theorem tlR_setT {L : LSt} {i : Nat} {t : Tk} : tlR (L.setT i t) = (tlR L).set i (tkc t) := by
  simp [tlR, LSt.setT, List.map_set]
theorem cwR_setS {x n : Nat} {L : LSt} {g0 c i : Nat} {s : Sp} (hg : g0 < L.sl.length) (hc : c < (L.sl.getD g0 []).length) : cwR x n (L.setS g0 c s) g0 i = cwR x n L g0 i := by
  unfold cwR
  rw [setS_len]
  refine List.map_congr_left fun j _ => ?_
  split
  · split
    · rfl
    · rename_i hj
      have e1 : (L.setS g0 c s).st.nsp j = L.st.nsp j := setS_rows
      have e2 : sf (L.setS g0 c s).st j = sf L.st j := funext fun d => by
        have e : (L.setS g0 c s).st.sp j d = L.st.sp j d := by
          show (L.setS g0 c s).sp j d = L.sp j d
          rw [setS_sp hg hc, if_neg (fun e => hj e.1)]
        unfold sf
        rw [e]
      unfold ssf
      rw [e1, e2]
  · rfl
theorem slR_setS {L : LSt} {g0 c : Nat} {s : Sp} (hg : g0 < L.sl.length) : slR (L.setS g0 c s) g0 = (slR L g0).set c (spc s) := by
  unfold slR
  rw [setS_row hg, if_pos rfl, List.map_set]
theorem cwR_bd {x n : Nat} {L : LSt} {g0 i : Nat} {p : Nat → Bool} (h : p x = true) : ((cwR x n L g0 i).all fun row => row.all (bd0 p)) = true := by
  rw [List.all_eq_true]
  intro row hr
  simp only [cwR, List.mem_map, List.mem_range] at hr
  obtain ⟨g, hg, rfl⟩ := hr
  split
  · split
    · simp [bd0, h]
    · rfl
  · rfl
theorem key2 {b x : Nat} {A X : Blk} {H : Heap} (h : b ≠ x) : keyB ((b, A) :: (x, X) :: H) x = true := by
  unfold keyB
  simp only [AM.look]
  rw [if_neg h, if_pos trivial]
  rfl
end Go.Proofs.T
end
section
namespace Go.Proofs.T
open Go Go.AM Go.Proofs
set_option maxRecDepth 20000
theorem awake : Pure Tryz.prog [] 9 [] (.lit (.bool true)) := Pure_true 300 rfl (by kernel_rfl)
end Go.Proofs.T
end
