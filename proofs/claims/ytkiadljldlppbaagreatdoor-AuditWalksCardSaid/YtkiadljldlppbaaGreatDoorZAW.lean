import Derived.Test.YtkiadljldlppbaaGreatDoorZAV
set_option linter.unusedVariables false
set_option linter.unusedSimpArgs false
section
namespace Go.Proofs.T
open Go Go.AM Go.Proofs
set_option maxRecDepth 20000
theorem leH_skip {q : Nat} {B : Blk} : ∀ {H H1 : Heap}, keyB H1 q = false → leH ((q, B) :: H) H1 = leH H H1
  | H, [], _ => rfl
  | H, (i, C) :: H1, h => by
    have hne : i ≠ q := fun e => by subst e; simp [keyB, AM.look] at h
    have h2 : keyB H1 q = false := by
      simp only [keyB, AM.look] at h ⊢
      split at h
      · simp at h
      · exact h
    rw [AM.leH_cons, AM.leH_cons, leH_skip h2]
    simp only [AM.look]
    first | rw [if_neg hne] | rw [if_neg (Ne.symm hne)]
structure WkC (F : Nat → Heap) (S OP : Nat → List AVal) (NC : List AVal) (NB : Blk) (k kx : Nat) : Prop where
  hSl : ∀ i, (S i).length = 7
  hSt : ∀ i, (S i).take 7 = S i
  hSo : ∀ i, (S i).all AM.one = true
  hSc : ∀ i, (S i).all clean = true
  hlk : ∀ i, (AM.look (F i) (k + 15)).isSome = true
  hbk : ∀ i, bdH (keyB (F i)) (F i) = true
  hSb : ∀ (p : Nat → Bool) i, (S i).all (bd0 p) = true
  hSd : ∀ i, List.drop 7 (S i) = []
  hOl : ∀ i, (OP i).length = 8
  hOt : ∀ i, (OP i).take 8 = OP i
  hOo : ∀ i, (OP i).all AM.one = true
  hOc : ∀ i, (OP i).all clean = true
  hOb : ∀ (p : Nat → Bool) i, (OP i).all (bd0 p) = true
  hOd : ∀ i, List.drop 8 (OP i) = []
  hNl : NC.length = 13
  hNt : NC.take 13 = NC
  hNo : NC.all AM.one = true
  hNc : NC.all clean = true
  hNb0 : ∀ (p : Nat → Bool), NC.all (bd0 p) = true
  hNd0 : List.drop 13 NC = []
  hNB : NB.pure = true
  hswN : ∀ a b, swB a b NB = NB
  hdel : ∀ i k', i ≤ 900 → kx ≤ k' → del (F i) k' = F i
  hkey : ∀ i q, i ≤ 900 → keyB (F i) q = true → k + 15 ≤ q ∧ q < kx
  hswC : ∀ a b, NC.map (sw0 a b) = NC
  hskip : ∀ i q B (H : Heap), i ≤ 900 → (q < k + 15 ∨ kx ≤ q) → leH ((q, B) :: H) (F i) = leH H (F i)
  hFF : ∀ i, i ≤ 900 → leH (F i) (F i) = True
  hbF : ∀ i t, i ≤ 900 → kx ≤ t → bdH (ltB t) (F i) = true
set_option maxHeartbeats 8000000 in
theorem walks_round {f : Nat → Sm} {nl q n ng k kx T : Nat} {fr : Int} {L0 : LSt} {Ls : Nat → LSt} {zs : Nat → LSt × (Int × Int) × (Nat × Nat)} {F : Nat → Heap} {S OP G : Nat → List AVal} {NC : List AVal} {NB : Blk} (hC : WkC F S OP NC NB k kx)
    (hR : Runs [] n ng (k + 15) T (kx + 3) (fun i => opn (f i)) L0 Ls zs) (ekx : kx = k + (24 + ng)) (eT : T = k + (23 + ng)) (hn4 : n ≤ 4) (hg6 : ng ≤ 6) (hf0 : 0 ≤ fr) (hf1 : fr ≤ 255) (hq2 : q ≤ 30)
    (hF : ∀ i, F i = MH (k + 15) T (Ls i)) (hS : ∀ i, S i = (Ls i).st.cells) (hOP : ∀ i, OP i = opc (opn (f i))) (i j : Nat) (hi1 : i ≤ q) (hi2 : j ≤ i) (hi3 : i < q) (Q : AQ) :
    AM.W Tryz.prog [] 110 k (cat (bodyOf Tryz.f3) [0, 0, 1, 0, 1, 1, 1, 1, 1, 1, 1])
      (thenQ (fun k' fr' H' => ∃ y : Nat × Nat, (y.1 ≤ q ∧ y.2 ≤ y.1) ∧ q - y.1 < q - i ∧ Mv k k' fr' H' (kx + 2) [(45, .lit (.int .i64 (q : Int))), (44, .rd 8 q OP), (11, .ptr (kx + 1) 0 0), (9, .lit (.int .i64 0)), (10, .ptr kx 0 0), (37, .lit (.bool false)), (8, .ptr (k + 15) 0 0), (7, .rd 8 q OP), (23, .lit (.bool false)), (6, .lit (.bool false)), (3, .ptr k 0 0), (0, .agg NC), (1, .rd 8 nl G), (2, .lit (.int .u8 fr)), (46, .lit (.int .i64 (y.1 : Int)))] ((kx + 1, ⟨7, true, [S y.2]⟩) :: (kx, ⟨7, true, [S y.1]⟩) :: (k, NB) :: F y.1)) Q)
      (kx + 2) [(45, .lit (.int .i64 (q : Int))), (44, .rd 8 q OP), (11, .ptr (kx + 1) 0 0), (9, .lit (.int .i64 0)), (10, .ptr kx 0 0), (37, .lit (.bool false)), (8, .ptr (k + 15) 0 0), (7, .rd 8 q OP), (23, .lit (.bool false)), (6, .lit (.bool false)), (3, .ptr k 0 0), (0, .agg NC), (1, .rd 8 nl G), (2, .lit (.int .u8 fr)), (46, .lit (.int .i64 (i : Int)))] ((kx + 1, ⟨7, true, [S j]⟩) :: (kx, ⟨7, true, [S i]⟩) :: (k, NB) :: F i) := by
  obtain ⟨hSl, hSt, hSo, hSc, hlk, hbk, hSb, hSd, hOl, hOt, hOo, hOc, hOb, hOd, hNl, hNt, hNo, hNc, hNb0, hNd0, hNB, hswN, hdel, hkey, hswC, hskip, hFF, hbF⟩ := hC
  obtain ⟨hr1, hr2, hr3⟩ := hR.rt 0 (by omega)
  obtain ⟨hd1, hd2, hd3, hd4, hd5, hd6, hd7, hd8, hd9⟩ := hR.did i (by omega)
  rw [← hR.s i] at hd9
  obtain ⟨hr1, hr2, hr3⟩ := hR.rt i (by omega)
  obtain ⟨hr4, hr5, hr6⟩ := hR.rt (i + 1) (by omega)
  obtain ⟨hr7, hr8, hr9⟩ := hR.rt j (by omega)
  obtain ⟨tk', etk⟩ : ∃ t, t = (zs i).2.2.1 := ⟨_, rfl⟩
  obtain ⟨kk', ekk⟩ : ∃ t, t = (zs i).2.2.2 := ⟨_, rfl⟩
  obtain ⟨ra, era⟩ : ∃ t, t = (zs i).2.1.1 := ⟨_, rfl⟩
  obtain ⟨re, ere⟩ : ∃ t, t = (zs i).2.1.2 := ⟨_, rfl⟩
  rw [← etk] at hd5 hd6 hd7 hd9
  rw [← ekk] at hd6 hd8 hd9
  rw [← era, ← ere] at hd9
  simp only [res2] at hd9
  rw [← hOP] at hd9
  have hst := mstate (Ls (i + 1)) n hr4.r0 (k + 15) tk' kk' (by omega) (by omega) (Γ := [])
  rw [← hS] at hst
  obtain ⟨N, eN⟩ : ∃ N : Heap, N = MH (k + 15) tk' (Ls (i + 1)) := ⟨_, rfl⟩
  rw [← eN] at hst hd9
  rw [← hF] at hd9
  have hNk : (AM.look N (k + 15)).isSome = true := by rw [eN, look_MH]; rfl
  have hq0 : ((q : Int) = 0) = False := by simp; omega
  have hNb : bdH (keyB N) N = true := by rw [eN]; exact MH_keyB
  have hNd : ∀ k', kk' ≤ k' → del N k' = N := fun k' h2 => by
    rw [eN]
    simp only [MH, LH]
    have uU := @hr6
    refine rRL ?_ <;> first | exact hdT | apply zN
  have hNkey : ∀ q, keyB N q = true → k + 15 ≤ q ∧ (q < kx ∨ q = tk') := fun q h2 => by
    rw [eN] at h2
    have := keyB_MH h2
    omega
  have kp : Kp [0,1,2,3,6,7,8,9,10,11,12,13,14,15,16,17,18,19,20,21,23,37,44,45,46,47,97,105] (fun i => i - k) := kpI
  have uU := zA @hSl (zA @hSt (zA @hSo (zA @hSc (zA @hSd (zA @hOl (zA @hOt (zA @hOo (zA @hOc (zA @hOb (zA @hOd (zA @hNl (zA @hNt (zA @hNo (zA @hNc (zA @hNb0 (zA @hNd0 (zA @apN (zA @hSb (zA @hlk (zA @hbk (zA @hdel (zA @hNk (zA @hNb (zA @hNd @hq0))))))))))))))))))))))))
  refine wlL ?_ <;> and_intros <;> first | exact hdT | (apply zM; (repeat intro ht); apply zM; (repeat intro hg); apply zM)
  refine clL [.far (res2 ra re) kk' [(kx + 2, ⟨8, true, [OP i]⟩), (kx + 1, ⟨7, true, [S j]⟩), (kx, ⟨7, true, [S i]⟩), (k, NB)] (F i) N] ?_ <;> and_intros <;> first | exact hdT | (apply zM; (repeat intro ht); apply zM; (repeat intro hg); apply zM)
  · exact fun q => rfl
  · exact fun q hq => by
      rcases hq with hq | hq
      · have := hkey i q (by omega) hq
        simp only [AM.look]
        repeat rw [if_neg (by omega)]
      · have := hNkey q hq
        simp only [AM.look]
        repeat rw [if_neg (by omega)]
  try exact hd9
  refine wlL ?_ <;> and_intros <;> first | exact hdT | (apply zM; (repeat intro ht); apply zM; (repeat intro hg); apply zM)
  refine clL [.far (.tup [.agg (S (i + 1)), .lit (.int .i64 0)]) kk' [(kx + 2, ⟨8, true, [OP i]⟩), (kx + 1, ⟨7, true, [S j]⟩), (kx, ⟨7, true, [S i]⟩), (k, NB)] N N] ?_ <;> and_intros <;> first | exact hdT | (apply zM; (repeat intro ht); apply zM; (repeat intro hg); apply zM)
  · exact fun q => rfl
  · exact fun q hq => by
      have := hNkey q (hq.elim id id)
      simp only [AM.look]
      repeat rw [if_neg (by omega)]
  refine wlL ?_ <;> and_intros <;> first | exact hdT | (apply zM; (repeat intro ht); apply zM; (repeat intro hg); apply zM)
  have hs1 := mstep_no (Γ := []) (by omega) hr1 hr4 (by omega) (hR.later (show i ≤ i + 1 by omega) (by omega))
  have hs2 := mstep_no (Γ := []) (by omega) hr7 hr4 (by omega) (hR.later (show j ≤ i + 1 by omega) (by omega))
  have hs3 := mstep_no (Γ := []) (by omega) hr4 hr4 (by omega) (Later.refl _)
  rw [← hS, ← hS] at hs1 hs2
  rw [← hS] at hs3
  refine clL [.ret (.tup [.rd 3 0 (fun _ => []), .lit (.int .i64 0)])] ?_ <;> and_intros <;> first | exact hdT | (apply zM; (repeat intro ht); apply zM; (repeat intro hg); apply zM)
  refine wlL ?_ <;> and_intros <;> first | exact hdT | (apply zM; (repeat intro ht); apply zM; (repeat intro hg); apply zM)
  refine clL [.ret (.tup [.rd 3 0 (fun _ => []), .lit (.int .i64 0)])] ?_ <;> and_intros <;> first | exact hdT | (apply zM; (repeat intro ht); apply zM; (repeat intro hg); apply zM)
  refine wlL ?_ <;> and_intros <;> first | exact hdT | (apply zM; (repeat intro ht); apply zM; (repeat intro hg); apply zM)
  refine clL [.ret (.tup [.rd 3 0 (fun _ => []), .lit (.int .i64 0)])] ?_ <;> and_intros <;> first | exact hdT | (apply zM; (repeat intro ht); apply zM; (repeat intro hg); apply zM)
  refine wlL ?_ <;> and_intros <;> first | exact hdT | (apply zM; (repeat intro ht); apply zM; (repeat intro hg); apply zM)
  · refine ⟨(i + 1, i + 1), ⟨by show i + 1 ≤ q; omega, by show i + 1 ≤ i + 1; omega⟩, by show q - (i + 1) < q - i; omega, ?_⟩
    dsimp only
    rcases hd7 with h | h
    · rw [show N = F (i + 1) by rw [eN, hF, h]]
      exact wkD (hf := by simp -dsimp -implicitDefEqProofs (disch := omega) only [go_sem, nq0, hSl, hSc, hOl, hOc, hOb, hNl, hNc, hNb0, hSb, hskip, hFF, hbF, hNB, List.map_append, List.map_cons, List.map_nil, eq_self, ↓reduceIte]) (hH := by simp -dsimp -implicitDefEqProofs (disch := omega) only [go_sem, nq0, hSl, hSc, hOl, hOc, hOb, hNl, hNc, hNb0, hSb, hskip, hFF, hbF, hNB, List.map_append, List.map_cons, List.map_nil, eq_self, ↓reduceIte]) (h := by simp -dsimp -implicitDefEqProofs (disch := omega) only [go_sem, nq0, hSl, hSc, hOl, hOc, hOb, hNl, hNc, hNb0, hSb, hskip, hFF, hbF, hNB, List.map_append, List.map_cons, List.map_nil, eq_self, ↓reduceIte]) (h' := by simp -dsimp -implicitDefEqProofs (disch := omega) only [go_sem, nq0, hSl, hSc, hOl, hOc, hOb, hNl, hNc, hNb0, hSb, hskip, hFF, hbF, hNB, List.map_append, List.map_cons, List.map_nil, eq_self, ↓reduceIte])
    · refine Mv.trans (Mv.swap tk' T ⟨by omega, by omega⟩ ⟨by omega, by omega⟩) ?_
      have hsw : swH tk' T N = F (i + 1) := by
        rw [eN, hF]
        simp only [MH, LH]
        have uU := @hr6
        refine rRL ?_ <;> first | exact hdT | apply zN
      have uU := zA @hSl (zA @hSc (zA @hOl (zA @hOc (zA @hOb (zA @hNl (zA @hNc (zA @hNb0 (zA @hSb (zA @hskip (zA @hFF (zA @hbF (zA @hNB (zA @hsw (zA @hswN @hswC))))))))))))))
      refine rRL ?_ <;> first | exact hdT | apply zN
      exact wkD (hf := by simp -dsimp -implicitDefEqProofs (disch := omega) only [go_sem, nq0, hSl, hSc, hOl, hOc, hOb, hNl, hNc, hNb0, hSb, hskip, hFF, hbF, hNB, hsw, hswN, hswC, List.map_append, List.map_cons, List.map_nil, eq_self, ↓reduceIte]) (hH := by simp -dsimp -implicitDefEqProofs (disch := omega) only [go_sem, nq0, hSl, hSc, hOl, hOc, hOb, hNl, hNc, hNb0, hSb, hskip, hFF, hbF, hNB, hsw, hswN, hswC, List.map_append, List.map_cons, List.map_nil, eq_self, ↓reduceIte]) (h := by simp -dsimp -implicitDefEqProofs (disch := omega) only [go_sem, nq0, hSl, hSc, hOl, hOc, hOb, hNl, hNc, hNb0, hSb, hskip, hFF, hbF, hNB, hsw, hswN, hswC, List.map_append, List.map_cons, List.map_nil, eq_self, ↓reduceIte]) (h' := by simp -dsimp -implicitDefEqProofs (disch := omega) only [go_sem, nq0, hSl, hSc, hOl, hOc, hOb, hNl, hNc, hNb0, hSb, hskip, hFF, hbF, hNB, hsw, hswN, hswC, List.map_append, List.map_cons, List.map_nil, eq_self, ↓reduceIte])
  · refine ⟨(i + 1, j), ⟨by show i + 1 ≤ q; omega, by show j ≤ i + 1; omega⟩, by show q - (i + 1) < q - i; omega, ?_⟩
    dsimp only
    rcases hd7 with h | h
    · rw [show N = F (i + 1) by rw [eN, hF, h]]
      exact wkD (hf := by simp -dsimp -implicitDefEqProofs (disch := omega) only [go_sem, nq0, hSl, hSc, hOl, hOc, hOb, hNl, hNc, hNb0, hSb, hskip, hFF, hbF, hNB, List.map_append, List.map_cons, List.map_nil, eq_self, ↓reduceIte]) (hH := by simp -dsimp -implicitDefEqProofs (disch := omega) only [go_sem, nq0, hSl, hSc, hOl, hOc, hOb, hNl, hNc, hNb0, hSb, hskip, hFF, hbF, hNB, List.map_append, List.map_cons, List.map_nil, eq_self, ↓reduceIte]) (h := by simp -dsimp -implicitDefEqProofs (disch := omega) only [go_sem, nq0, hSl, hSc, hOl, hOc, hOb, hNl, hNc, hNb0, hSb, hskip, hFF, hbF, hNB, List.map_append, List.map_cons, List.map_nil, eq_self, ↓reduceIte]) (h' := by simp -dsimp -implicitDefEqProofs (disch := omega) only [go_sem, nq0, hSl, hSc, hOl, hOc, hOb, hNl, hNc, hNb0, hSb, hskip, hFF, hbF, hNB, List.map_append, List.map_cons, List.map_nil, eq_self, ↓reduceIte])
    · refine Mv.trans (Mv.swap tk' T ⟨by omega, by omega⟩ ⟨by omega, by omega⟩) ?_
      have hsw : swH tk' T N = F (i + 1) := by
        rw [eN, hF]
        simp only [MH, LH]
        have uU := @hr6
        refine rRL ?_ <;> first | exact hdT | apply zN
      have uU := zA @hSl (zA @hSc (zA @hOl (zA @hOc (zA @hOb (zA @hNl (zA @hNc (zA @hNb0 (zA @hSb (zA @hskip (zA @hFF (zA @hbF (zA @hNB (zA @hsw (zA @hswN @hswC))))))))))))))
      refine rRL ?_ <;> first | exact hdT | apply zN
      exact wkD (hf := by simp -dsimp -implicitDefEqProofs (disch := omega) only [go_sem, nq0, hSl, hSc, hOl, hOc, hOb, hNl, hNc, hNb0, hSb, hskip, hFF, hbF, hNB, hsw, hswN, hswC, List.map_append, List.map_cons, List.map_nil, eq_self, ↓reduceIte]) (hH := by simp -dsimp -implicitDefEqProofs (disch := omega) only [go_sem, nq0, hSl, hSc, hOl, hOc, hOb, hNl, hNc, hNb0, hSb, hskip, hFF, hbF, hNB, hsw, hswN, hswC, List.map_append, List.map_cons, List.map_nil, eq_self, ↓reduceIte]) (h := by simp -dsimp -implicitDefEqProofs (disch := omega) only [go_sem, nq0, hSl, hSc, hOl, hOc, hOb, hNl, hNc, hNb0, hSb, hskip, hFF, hbF, hNB, hsw, hswN, hswC, List.map_append, List.map_cons, List.map_nil, eq_self, ↓reduceIte]) (h' := by simp -dsimp -implicitDefEqProofs (disch := omega) only [go_sem, nq0, hSl, hSc, hOl, hOc, hOb, hNl, hNc, hNb0, hSb, hskip, hFF, hbF, hNB, hsw, hswN, hswC, List.map_append, List.map_cons, List.map_nil, eq_self, ↓reduceIte])
  · exact absurd (by decide) hg
set_option maxHeartbeats 8000000 in
theorem walks_tr (x : Nums) (hx : NumsOk x) (f : Nat → Sm) (hf : ∀ i, SmOk (f i)) (nl q qg n ng : Nat) (hq : q = min nl 30) (hnl : nl ≤ 9223372036854775807) (hqg : x.g % 6 = (qg : Int)) (hn : 1 + x.c % 4 = (n : Int)) (hng : ng = qg + 1) (fr : Int) (hf0 : 0 ≤ fr) (hf1 : fr ≤ 255)
    (k : Nat) (Ls : Nat → LSt) (zs : Nat → LSt × (Int × Int) × (Nat × Nat)) (hR : Runs [] n ng (k + 15) (k + (23 + ng)) (k + (27 + ng)) (fun i => opn (f i)) (newL (cfgS (1 + x.c % 4) x.cr (mkGD x qg).1) n) Ls zs) :
    Tr Tryz.prog [] 3 k [.agg x.cells, .rd 8 nl (fun i => smc (f i)), .lit (.int .u8 fr)] [] (fun _ r1 _ => r1 = .lit (.bool true)) := by
  have hmade := lmade x hx (Γ := [])
  rw [hqg, Int.toNat_natCast] at hmade
  have hscr := lscript f hf nl 30 q hq (by omega) (by omega) hnl (Γ := [])
  have hq2 : q ≤ 30 := by omega
  obtain ⟨s, es⟩ : ∃ s, s = cfgS (1 + x.c % 4) x.cr (mkGD x qg).1 := ⟨_, rfl⟩
  have hl := (mkGD_len x qg).1
  have hc0 := hx.c0
  have hg0 := hx.g0
  have hsng : s.ng = ng := by rw [es, hng]; exact hl
  have hnew := mnew s n (by rw [es]; exact hn) (by rw [cfg_eq, es]; exact cfg_mk hx (by omega)) (by omega) (by omega) (by omega) (by omega) (k + 1) (Γ := [])
  rw [hsng] at hnew
  rw [← es] at hmade hR
  obtain ⟨kx, ekx⟩ : ∃ kx, kx = k + (24 + ng) := ⟨_, rfl⟩
  obtain ⟨T, eT⟩ : ∃ T, T = k + (23 + ng) := ⟨_, rfl⟩
  rw [show k + 1 + (23 + ng) = kx by omega, show k + 1 + (22 + ng) = T by omega, show k + 1 + 14 = k + 15 from rfl] at hnew
  rw [← eT, show k + (27 + ng) = kx + 3 by omega] at hR
  obtain ⟨hr1, hr2, hr3⟩ := hR.rt 0 (by omega)
  have hst := mstate (Ls 0) n hr1.r0 (k + 15) T kx (by omega) (by omega) (Γ := [])
  obtain ⟨F, hF⟩ : ∃ F : Nat → Heap, ∀ i, F i = MH (k + 15) T (Ls i) := ⟨_, fun _ => rfl⟩
  obtain ⟨S, hS⟩ : ∃ S : Nat → List AVal, ∀ i, S i = (Ls i).st.cells := ⟨_, fun _ => rfl⟩
  have hSl : ∀ i, (S i).length = 7 := fun i => by rw [hS]; rfl
  have hSt : ∀ i, (S i).take 7 = S i := fun i => by rw [hS]; rfl
  have hSo : ∀ i, (S i).all AM.one = true := fun i => by rw [hS]; rfl
  have hSc : ∀ i, (S i).all clean = true := fun i => by rw [hS]; rfl
  have hlk : ∀ i, (AM.look (F i) (k + 15)).isSome = true := fun i => by rw [hF, look_MH]; rfl
  have hbk : ∀ i, bdH (keyB (F i)) (F i) = true := fun i => by rw [hF]; exact MH_keyB
  have hSb : ∀ (p : Nat → Bool) i, (S i).all (bd0 p) = true := fun p i => by rw [hS]; rfl
  have hSd : ∀ i, List.drop 7 (S i) = [] := fun i => by rw [hS]; rfl
  rw [← hR.z] at hnew
  rw [← hS, ← hF] at hst
  rw [← hF] at hnew
  obtain ⟨NC, eNC⟩ : ∃ C, C = x.cells := ⟨_, rfl⟩
  obtain ⟨G, eG⟩ : ∃ G : Nat → List AVal, G = fun i => smc (f i) := ⟨_, rfl⟩
  obtain ⟨OP, hOP⟩ : ∃ G : Nat → List AVal, ∀ i, G i = opc (opn (f i)) := ⟨_, fun _ => rfl⟩
  have eOP : (fun i => opc (opn (f i))) = OP := funext fun i => (hOP i).symm
  have hOl : ∀ i, (OP i).length = 8 := fun i => by rw [hOP]; rfl
  have hOt : ∀ i, (OP i).take 8 = OP i := fun i => by rw [hOP]; rfl
  have hOo : ∀ i, (OP i).all AM.one = true := fun i => by rw [hOP]; rfl
  have hOc : ∀ i, (OP i).all clean = true := fun i => by rw [hOP]; rfl
  have hOb : ∀ (p : Nat → Bool) i, (OP i).all (bd0 p) = true := fun p i => by rw [hOP]; rfl
  have hOd : ∀ i, List.drop 8 (OP i) = [] := fun i => by rw [hOP]; rfl
  have hNl : NC.length = 13 := by rw [eNC]; rfl
  have hNt : NC.take 13 = NC := by rw [eNC]; rfl
  have hNo : NC.all AM.one = true := by rw [eNC]; rfl
  have hNc : NC.all clean = true := by rw [eNC]; rfl
  have hNb0 : ∀ (p : Nat → Bool), NC.all (bd0 p) = true := fun p => by rw [eNC]; rfl
  have hNd0 : List.drop 13 NC = [] := by rw [eNC]; rfl
  rw [← eNC] at hmade
  rw [← eG, eOP] at hscr
  rw [← eNC, ← eG]
  refine Tr_at Tryz.func3 rfl 110 rfl (Nat.le_of_ble_eq_true rfl) ?_
  have kp : Kp [0,1,2,3,6,7,8,9,10,11,12,13,14,15,16,17,18,19,20,21,23,37,44,45,46,47,97,105] (fun i => i - k) := kpI
  have uU := zA @hSl (zA @hSt (zA @hSo (zA @hSc (zA @hSd (zA @hOl (zA @hOt (zA @hOo (zA @hOc (zA @hOb (zA @hOd (zA @hNl (zA @hNt (zA @hNo (zA @hNc (zA @hNb0 (zA @hNd0 (zA @apN (zA @hSb (zA @hlk @hbk)))))))))))))))))))
  refine wlL ?_ <;> and_intros <;> first | exact hdT | (apply zM; (repeat intro ht); apply zM; (repeat intro hg); apply zM)
  refine clL [.ret (.lit (.bool true))] ?_ <;> and_intros <;> first | exact hdT | (apply zM; (repeat intro ht); apply zM; (repeat intro hg); apply zM)
  · exact awake
  refine wlL ?_ <;> and_intros <;> first | exact hdT | (apply zM; (repeat intro ht); apply zM; (repeat intro hg); apply zM)
  refine clL [.ret (.rd 8 q OP)] ?_ <;> and_intros <;> first | exact hdT | (apply zM; (repeat intro ht); apply zM; (repeat intro hg); apply zM)
  try exact hscr
  refine wlL ?_ <;> and_intros <;> first | exact hdT | (apply zM; (repeat intro ht); apply zM; (repeat intro hg); apply zM)
  refine clL [.ret (.agg [.lit (.int .i64 s.cpus), .lit (.int .u64 s.credit), .rd 2 s.ng (gf s)]), .far (.tup [.ptr (k + 15) 0 0, .lit (.int .i64 0)]) kx [(k, ⟨13, true, [NC]⟩)] [] (F 0)] ?_ <;> and_intros <;> first | exact hdT | (apply zM; (repeat intro ht); apply zM; (repeat intro hg); apply zM)
  try exact hmade
  · exact fun q => rfl
  · exact fun q hq => by
      rcases hq with hq | hq
      · simp [keyB, AM.look] at hq
      · rw [hF] at hq
        have := keyB_MH hq
        simp only [AM.look]
        repeat rw [if_neg (by omega)]
  try exact hnew
  refine wlL ?_ <;> and_intros <;> first | exact hdT | (apply zM; (repeat intro ht); apply zM; (repeat intro hg); apply zM)
  rotate_left 1
  · exact absurd trivial hg
  obtain ⟨NB, eNB⟩ : ∃ B : Blk, B = ⟨13, true, [NC]⟩ := ⟨_, rfl⟩
  have hNB : NB.pure = true := by rw [eNB]
  have hswN : ∀ a b, swB a b NB = NB := fun a b => by rw [eNB]; rfl
  rw [← eNB]
  have hdel : ∀ i k', i ≤ 900 → kx ≤ k' → del (F i) k' = F i := fun i k' h1 h2 => by
    rw [hF]
    have hr3 := (hR.rt i h1).2.2
    simp only [MH, LH]
    have uU := @hr3
    refine rRL ?_ <;> first | exact hdT | apply zN
  have hkey : ∀ i q, i ≤ 900 → keyB (F i) q = true → k + 15 ≤ q ∧ q < kx := fun i q h1 h2 => by
    rw [hF] at h2
    have hr3 := (hR.rt i h1).2.2
    have := keyB_MH h2
    omega
  have hswC : ∀ a b, NC.map (sw0 a b) = NC := fun a b => by rw [eNC]; rfl
  have hskip : ∀ i q B (H : Heap), i ≤ 900 → (q < k + 15 ∨ kx ≤ q) → leH ((q, B) :: H) (F i) = leH H (F i) := fun i q B H h1 h2 => leH_skip (by
    cases e : keyB (F i) q
    · rfl
    · have := hkey i q h1 e
      omega)
  have hFF : ∀ i, i ≤ 900 → leH (F i) (F i) = True := fun i h1 => by
    rw [hF]
    have hr3 := (hR.rt i h1).2.2
    simp only [MH, LH]
    have uU := @hr3
    refine rRL ?_ <;> first | exact hdT | apply zN
  have hbF : ∀ i t, i ≤ 900 → kx ≤ t → bdH (ltB t) (F i) = true := fun i t h1 h2 => by
    have hr3 := (hR.rt i h1).2.2
    rw [hF]
    exact MH_lt (by omega) (by omega)
  have uU := zA @hSl (zA @hSt (zA @hSo (zA @hSc (zA @hSd (zA @hOl (zA @hOt (zA @hOo (zA @hOc (zA @hOb (zA @hOd (zA @hNl (zA @hNt (zA @hNo (zA @hNc (zA @hNb0 (zA @hNd0 (zA @apN (zA @hSb (zA @hlk (zA @hbk @hdel))))))))))))))))))))
  refine clL [.far (.tup [.agg (S 0), .lit (.int .i64 0)]) kx [(k, NB)] (F 0) (F 0)] ?_ <;> and_intros <;> first | exact hdT | (apply zM; (repeat intro ht); apply zM; (repeat intro hg); apply zM)
  · exact fun q => rfl
  · exact fun q hq => by
      have := hkey 0 q (by omega) (hq.elim id id)
      simp only [AM.look]
      repeat rw [if_neg (by omega)]
  refine wlL ?_ <;> and_intros <;> first | exact hdT | (apply zM; (repeat intro ht); apply zM; (repeat intro hg); apply zM)
  refine M_forO (X := Nat × Nat) rfl [0,1,2,3,6,7,8,9,10,11,12,13,14,15,16,17,18,19,20,21,23,37,44,45,46,47,97,105] (kx + 2) (fun i => [(46, .lit (.int .i64 (i.1 : Int)))]) (fun i => (kx + 1, ⟨7, true, [S i.2]⟩) :: (kx, ⟨7, true, [S i.1]⟩) :: (k, NB) :: F i.1) (fun i => i.1 ≤ q ∧ i.2 ≤ i.1) (fun i => q - i.1) (0, 0) ?_ ⟨Nat.zero_le _, Nat.zero_le _⟩ ?_
  · skip
    exact wkD (hf := by simp -dsimp -implicitDefEqProofs (disch := omega) only [go_sem, nq0, hSl, hSc, hOl, hOc, hOb, hNl, hNc, hNb0, hSb, hskip, hFF, hbF, hNB, List.map_append, List.map_cons, List.map_nil, eq_self, ↓reduceIte]) (hH := by simp -dsimp -implicitDefEqProofs (disch := omega) only [go_sem, nq0, hSl, hSc, hOl, hOc, hOb, hNl, hNc, hNb0, hSb, hskip, hFF, hbF, hNB, List.map_append, List.map_cons, List.map_nil, eq_self, ↓reduceIte]) (h := by simp -dsimp -implicitDefEqProofs (disch := omega) only [go_sem, nq0, hSl, hSc, hOl, hOc, hOb, hNl, hNc, hNb0, hSb, hskip, hFF, hbF, hNB, List.map_append, List.map_cons, List.map_nil, eq_self, ↓reduceIte]) (h' := by simp -dsimp -implicitDefEqProofs (disch := omega) only [go_sem, nq0, hSl, hSc, hOl, hOc, hOb, hNl, hNc, hNb0, hSb, hskip, hFF, hbF, hNB, List.map_append, List.map_cons, List.map_nil, eq_self, ↓reduceIte])
  intro i hi
  have uU := zA @hSl (zA @hSc (zA @hOl (zA @hOc (zA @hOb (zA @hNl (zA @hNc (zA @hNb0 (zA @hSb (zA @hskip (zA @hFF (zA @hbF @hNB)))))))))))
  refine rRL ?_ <;> first | exact hdT | apply zN
  obtain ⟨hi1, hi2⟩ := hi
  obtain ⟨i, j⟩ := i
  by_cases hi3 : i < q
  · exact walks_round ⟨hSl, hSt, hSo, hSc, hlk, hbk, hSb, hSd, hOl, hOt, hOo, hOc, hOb, hOd, hNl, hNt, hNo, hNc, hNb0, hNd0, hNB, hswN, hdel, hkey, hswC, hskip, hFF, hbF⟩ hR ekx eT (by omega) (by omega) hf0 hf1 hq2 hF hS hOP i j hi1 hi2 hi3 _
  · have hil : i = q := by
      have : i ≤ q := hi1
      omega
    subst hil
    have hll : decide ((i : Int) < (i : Int)) = false := by simp
    have uU := zA @hSl (zA @hSt (zA @hSo (zA @hSc (zA @hSd (zA @hOl (zA @hOt (zA @hOo (zA @hOc (zA @hOb (zA @hOd (zA @hNl (zA @hNt (zA @hNo (zA @hNc (zA @hNb0 (zA @hNd0 (zA @apN (zA @hSb (zA @hlk (zA @hbk (zA @hdel @hll)))))))))))))))))))))
    refine wlL ?_ <;> and_intros <;> first | exact hdT | (apply zM; (repeat intro ht); apply zM; (repeat intro hg); apply zM)
    refine C_ret rfl ?_; simp -dsimp -implicitDefEqProofs (disch := omega) only [go_sem, nq0, hSl, hSt, hSo, hSc, hSd, hOl, hOt, hOo, hOc, hOb, hOd, hNl, hNt, hNo, hNc, hNb0, hNd0, List.append_nil, hSb, hlk, hbk, hdel, hll, eq_self, ↓reduceIte]; refine ⟨_, rfl, ?_⟩
    rfl
end Go.Proofs.T
end
