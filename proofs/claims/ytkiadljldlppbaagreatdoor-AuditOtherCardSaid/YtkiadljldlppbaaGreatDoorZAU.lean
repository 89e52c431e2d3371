import Derived.Test.YtkiadljldlppbaaGreatDoorZAT
set_option linter.unusedVariables false
set_option linter.unusedSimpArgs false
section
namespace Go.AM
open Go
section
variable {P : Program} {Γ : List (Nat × List AVal)}
theorem Pure_of0 {f : FuncId} {args : List AVal} {r : AVal} (ha : args.all (bd fun _ => false) = true) (hr : bd (fun _ => false) r = true) (hT : Tr P Γ f 0 args [] (fun _ r1 _ => VLe r1 r)) : Pure P Γ f args r := fun k => by
  intro A hA w G ρ cargs hr0 hvs
  have hρ : ρ = noNames := funext fun id => hr0.dom id rfl
  subst hρ
  have hno : ∀ w1 G1 ρ1 A1 A2 u cu, V w1 G1 ρ1 A1 u cu → bd (fun _ => false) u = true → V w1 G1 ρ1 A2 u cu := fun w1 G1 ρ1 A1 A2 u cu h hb =>
    (V_bd h hb).mono (fun _ h => h) (fun _ _ => rfl) (fun _ _ => rfl) (fun i hi => by simp at hi) (fun _ _ => .inr rfl)
  refine (hT noAllow (fun i hi => hi.elim) w G noNames cargs ⟨fun _ _ => rfl, fun id B A' hid => by simp [ofHeap, look] at hid, hr0.inj, hr0.ro, hr0.glob⟩ ⟨hvs.1, fun j u hj => hno _ _ _ _ _ _ _ (hvs.2 j u hj) (all_get ha hj)⟩).mono ?_
  rintro e w' ⟨cv, G', ρ', k1, r1, H1, rfl, hle, hk1, hrel1, hv1, hst⟩
  refine ⟨cv, fun b => G' b ∨ owned ρ' b, noNames, k, r, [], rfl, ⟨rfl, rfl, rfl⟩, Nat.le_refl _, hrel1.fz, ?_, ⟨hst.size, hst.keep, hst.shape, fun b hb => .inl (hst.g b hb), fun b hb => hb.elim (hst.g' b) (fun h => .inr (hst.own b h)), fun b ⟨_, _, h⟩ => (by cases h), fun id _ => .inl rfl, hst.os, hst.tape, hst.output⟩⟩
  exact (V_bd (hle _ _ _ _ _ hv1) hr).mono (fun _ h => .inl h) (fun _ _ => rfl) (fun _ _ => rfl) (fun i hi => by simp at hi) (fun i hi => by simp at hi)
end
end Go.AM
namespace Go.Proofs.T
open Go Go.AM Go.Proofs
set_option maxRecDepth 20000
variable {Γ : List (Nat × List AVal)}
structure Did (Γ : List (Nat × List AVal)) (n ns m T k i : Nat) (o : Opn) (L : LSt) (z : LSt × (Int × Int) × (Nat × Nat)) : Prop where
  rt : Rt z.1 n
  nt : z.1.tl.length ≤ i + 1
  nsl : z.1.sl.length = ns
  lat : Later L z.1
  tk : m + 6 + ns ≤ z.2.2.1
  tk2 : z.2.2.1 < z.2.2.2
  tk3 : z.2.2.1 = T ∨ k ≤ z.2.2.1
  kk : k ≤ z.2.2.2
  tr : Tr Tryz.prog Γ 14 k [.ptr m 0 0, .agg (opc o)] (MH m T L) (fun k1 r1 H1 => k1 = z.2.2.2 ∧ r1 = res2 z.2.1.1 z.2.1.2 ∧ H1 = MH m z.2.2.1 z.1)
structure Runs (Γ : List (Nat × List AVal)) (n ns m T k : Nat) (o : Nat → Opn) (L0 : LSt) (Ls : Nat → LSt) (zs : Nat → LSt × (Int × Int) × (Nat × Nat)) : Prop where
  z : Ls 0 = L0
  s : ∀ i, Ls (i + 1) = (zs i).1
  rt : ∀ i, i ≤ 900 → Rt (Ls i) n ∧ (Ls i).tl.length ≤ i ∧ (Ls i).sl.length = ns
  did : ∀ i, i < 900 → Did Γ n ns m T k i (o i) (Ls i) (zs i)
theorem runs_ex (Γ : List (Nat × List AVal)) {L0 : LSt} {n : Nat} (h : Rt L0 n) (h0 : L0.tl = []) (o : Nat → Opn) (ho : ∀ i, OpnOk (o i)) (m T k : Nat) (hm : m + 6 + L0.sl.length ≤ T) (hk : T < k) : ∃ Ls zs, Runs Γ n L0.sl.length m T k o L0 Ls zs := by
  obtain ⟨ns, ens⟩ : ∃ ns, ns = L0.sl.length := ⟨_, rfl⟩
  rw [← ens] at hm ⊢
  have step : ∀ x : Nat × LSt, ∃ z, (x.1 < 900 → Rt x.2 n → x.2.tl.length ≤ x.1 → x.2.sl.length = ns → Did Γ n ns m T k x.1 (o x.1) x.2 z) := by
    rintro ⟨i, L⟩
    by_cases hc : i < 900 ∧ Rt L n ∧ L.tl.length ≤ i ∧ L.sl.length = ns
    · obtain ⟨h1, h2, h3, h4⟩ := hc
      obtain ⟨L', a, e, tk', k', r1, r2, r3, r4, r5, r6, r7, r8⟩ := mdo L n h2 (o i) (by omega) (ho i) m T k (by omega) hk (Γ := Γ)
      exact ⟨(L', (a, e), (tk', k')), fun _ _ _ _ => ⟨r1, by show L'.tl.length ≤ i + 1; omega, by show L'.sl.length = ns; rw [r2.ns, h4], r2, by show m + 6 + ns ≤ tk'; omega, r5, r6, r7, r8⟩⟩
    · exact ⟨(L, (0, 0), (0, 0)), fun h1 h2 h3 h4 => absurd ⟨h1, h2, h3, h4⟩ hc⟩
  obtain ⟨F, hF⟩ := Classical.axiomOfChoice step
  let Ls : Nat → LSt := fun i => Nat.rec L0 (fun i L => (F (i, L)).1) i
  have hs : ∀ i, Ls (i + 1) = (F (i, Ls i)).1 := fun i => rfl
  have hrt : ∀ i, i ≤ 900 → Rt (Ls i) n ∧ (Ls i).tl.length ≤ i ∧ (Ls i).sl.length = ns := fun i => by
    induction i with
    | zero => exact fun _ => ⟨h, by show L0.tl.length ≤ 0; rw [h0]; exact Nat.le_refl _, ens.symm⟩
    | succ i ih =>
      intro hi
      obtain ⟨a1, a2, a3⟩ := ih (by omega)
      have := hF (i, Ls i) (by show i < 900; omega) a1 a2 a3
      rw [hs]
      exact ⟨this.rt, this.nt, this.nsl⟩
  exact ⟨Ls, fun i => F (i, Ls i), ⟨rfl, hs, hrt, fun i hi => by
    obtain ⟨a1, a2, a3⟩ := hrt i (by omega)
    exact hF (i, Ls i) hi a1 a2 a3⟩⟩
theorem Runs.later {n ns m T k : Nat} {o : Nat → Opn} {L0 : LSt} {Ls : Nat → LSt} {zs : Nat → LSt × (Int × Int) × (Nat × Nat)} (h : Runs Γ n ns m T k o L0 Ls zs) : ∀ {i j : Nat}, i ≤ j → j ≤ 900 → Later (Ls i) (Ls j) := fun {i j} hij => by
  induction j with
  | zero => intro _; obtain rfl : i = 0 := by omega
            exact Later.refl _
  | succ j ih =>
    intro hj
    by_cases e : i = j + 1
    · subst e; exact Later.refl _
    · have := (h.did j (by omega)).lat
      rw [← h.s j] at this
      exact (ih (by omega) (by omega)).trans this
end Go.Proofs.T
end
section
namespace Go.Proofs.T
open Go Go.AM Go.Proofs
set_option maxRecDepth 20000
variable {Γ : List (Nat × List AVal)}
def zst7 : List AVal := [.lit (.int .i64 0), .lit (.int .u64 0), .lit (.slice none 0 0), .lit (.slice none 0 0), .lit (.slice none 0 0), .lit (.slice none 0 0), .lit (.slice none 0 0)]
set_option maxHeartbeats 8000000 in
theorem made_tr (x : Nums) (hx : NumsOk x) (f : Nat → Sm) (hf : ∀ i, SmOk (f i)) (nl most q qg n ng : Nat) (hq : q = min nl most) (hq2 : q ≤ 100) (hm2 : most ≤ 1000) (hnl : nl ≤ 9223372036854775807) (hqg : x.g % 6 = (qg : Int)) (hn : 1 + x.c % 4 = (n : Int)) (hng : ng = qg + 1)
    (k : Nat) (Ls : Nat → LSt) (zs : Nat → LSt × (Int × Int) × (Nat × Nat)) (hR : Runs Γ n ng (k + 16) (k + (24 + ng)) (k + (26 + ng)) (fun i => opn (f i)) (newL (cfgS (1 + x.c % 4) x.cr (mkGD x qg).1) n) Ls zs) :
    Tr Tryz.prog Γ 16 k [.agg x.cells, .rd 8 nl (fun i => smc (f i)), .lit (.int .i64 (most : Int))] [] (fun _ r1 _ => r1 = .tup [.agg (Ls q).st.cells, .lit (.bool true)]) := by
  have hmade := lmade x hx (Γ := Γ)
  rw [hqg, Int.toNat_natCast] at hmade
  have hscr := lscript f hf nl most q hq (by omega) hm2 hnl (Γ := Γ)
  obtain ⟨s, es⟩ : ∃ s, s = cfgS (1 + x.c % 4) x.cr (mkGD x qg).1 := ⟨_, rfl⟩
  have hl := (mkGD_len x qg).1
  have hc0 := hx.c0
  have hg0 := hx.g0
  have hsng : s.ng = ng := by rw [es, hng]; exact hl
  have hnew := mnew s n (by rw [es]; exact hn) (by rw [cfg_eq, es]; exact cfg_mk hx (by omega)) (by omega) (by omega) (by omega) (by omega) (k + 2) (Γ := Γ)
  rw [hsng] at hnew
  rw [← es] at hmade hR
  obtain ⟨kx, ekx⟩ : ∃ kx, kx = k + (25 + ng) := ⟨_, rfl⟩
  obtain ⟨T, eT⟩ : ∃ T, T = k + (24 + ng) := ⟨_, rfl⟩
  rw [show k + 2 + (23 + ng) = kx by omega, show k + 2 + (22 + ng) = T by omega, show k + 2 + 14 = k + 16 from rfl] at hnew
  rw [← eT, show k + (26 + ng) = kx + 1 by omega] at hR
  obtain ⟨RV, eRV⟩ : ∃ r, r = AVal.tup [.agg (Ls q).st.cells, .lit (.bool true)] := ⟨_, rfl⟩
  rw [← eRV]
  refine Tr_at Tryz.func16 rfl 46 rfl (Nat.le_of_ble_eq_true rfl) ?_
  simp only [Nums.cells] at hmade
  obtain ⟨NC, eNC⟩ : ∃ NC, NC = x.cells := ⟨_, rfl⟩
  have kp : Kp [0,1,2,3,6,7,8,9,11,12,24,28,29,30,31] (fun i => i - k) := kpI
  have uU := @Nums.cells.eq_1
  refine wlL ?_ <;> and_intros <;> first | exact hdT | (apply zM; (repeat intro ht); apply zM; (repeat intro hg); apply zM)
  refine clL [.ret (.agg [.lit (.int .i64 s.cpus), .lit (.int .u64 s.credit), .rd 2 s.ng (gf s)]), .far (.tup [.ptr (k + 16) 0 0, .lit (.int .i64 0)]) kx [(k + 1, ⟨7, true, [zst7]⟩), (k, ⟨13, true, [x.cells]⟩)] [] (MH (k + 16) T (newL s n))] ?_ <;> and_intros <;> first | exact hdT | (apply zM; (repeat intro ht); apply zM; (repeat intro hg); apply zM)
  · exact hmade
  · exact fun q => rfl
  · exact fun q hq => by
      rcases hq with hq | hq
      · simp [keyB, AM.look] at hq
      · have := keyB_MH hq
        simp only [AM.look]
        repeat rw [if_neg (by omega)]
  · exact hnew
  refine wlL ?_ <;> and_intros <;> first | exact hdT | (apply zM; (repeat intro ht); apply zM; (repeat intro hg); apply zM)
  rotate_left 1
  · decide
  · exact absurd trivial hg
  obtain ⟨F, hF⟩ : ∃ F : Nat → Heap, ∀ i, F i = MH (k + 16) T (Ls i) := ⟨_, fun _ => rfl⟩
  rw [← hR.z, ← hF 0]
  refine clL [.ret (.rd 8 q (fun i => opc (opn (f i))))] ?_ <;> and_intros <;> first | exact hdT | (apply zM; (repeat intro ht); apply zM; (repeat intro hg); apply zM)
  · exact hscr
  refine wlL ?_ <;> and_intros <;> first | exact hdT | (apply zM; (repeat intro ht); apply zM; (repeat intro hg); apply zM)
  obtain ⟨NB, eNB⟩ : ∃ B : Blk, B = ⟨13, true, [[.lit (.int .u8 x.c), .lit (.int .u8 x.g), .lit (.int .u32 x.cr), .lit (.int .u8 (x.p 0)), .lit (.int .u8 (x.p 1)), .lit (.int .u8 (x.p 2)), .lit (.int .u8 (x.p 3)), .lit (.int .u8 (x.p 4)), .lit (.int .u16 (x.w 0)), .lit (.int .u16 (x.w 1)), .lit (.int .u16 (x.w 2)), .lit (.int .u16 (x.w 3)), .lit (.int .u16 (x.w 4))]]⟩ := ⟨_, rfl⟩
  refine M_forO (X := Nat) rfl [0,1,2,3,6,7,8,9,11,12,24,28,29,30,31] kx (fun i => [(30, .lit (.int .i64 (i : Int)))]) (fun i => (k + 1, ⟨7, true, [zst7]⟩) :: (k, NB) :: F i) (fun i => i ≤ q) (fun i => q - i) 0 ?_ (Nat.zero_le _) ?_
  · have hl0 := (hR.rt 0 (by omega)).2.2
    rw [eNB, hF 0]
    simp only [MH, LH]
    have uU := @hl0
    refine rRL ?_ <;> first | exact hdT | apply zN
    exact wkD
  intro i hi
  refine rRL ?_ <;> first | exact hdT | apply zN
  by_cases hi2 : i < q
  · obtain ⟨hd1, hd2, hd3, hd4, hd5, hd6, hd7, hd8, hd9⟩ := hR.did i (by omega)
    rw [← hR.s i] at hd9
    obtain ⟨hr1, hr2, hr3⟩ := hR.rt i (by omega)
    obtain ⟨hr4, hr5, hr6⟩ := hR.rt (i + 1) (by omega)
    obtain ⟨tk', etk⟩ : ∃ t, t = (zs i).2.2.1 := ⟨_, rfl⟩
    obtain ⟨kk', ekk⟩ : ∃ t, t = (zs i).2.2.2 := ⟨_, rfl⟩
    obtain ⟨ra, era⟩ : ∃ t, t = (zs i).2.1.1 := ⟨_, rfl⟩
    obtain ⟨re, ere⟩ : ∃ t, t = (zs i).2.1.2 := ⟨_, rfl⟩
    rw [← etk] at hd5 hd6 hd7 hd9
    rw [← ekk] at hd6 hd8 hd9
    rw [← era, ← ere] at hd9
    simp only [opc, res2] at hd9
    have hdel : del (F i) kx = F i := by
      rw [hF]
      simp only [MH, LH]
      have uU := @hr3
      refine rRL ?_ <;> first | exact hdT | apply zN
    have uU := zA @Nums.cells.eq_1 @hdel
    refine wlL ?_ <;> and_intros <;> first | exact hdT | (apply zM; (repeat intro ht); apply zM; (repeat intro hg); apply zM)
    refine clL [.far (res2 ra re) kk' [(kx, ⟨8, true, [opc (opn (f i))]⟩), (k + 1, ⟨7, true, [zst7]⟩), (k, NB)] (MH (k + 16) T (Ls i)) (MH (k + 16) tk' (Ls (i + 1)))] ?_ <;> and_intros <;> first | exact hdT | (apply zM; (repeat intro ht); apply zM; (repeat intro hg); apply zM)
    · exact fun q => by rw [hF]
    · exact fun q hq => by
        rcases hq with hq | hq
        · have := keyB_MH hq
          simp only [AM.look]
          repeat rw [if_neg (by omega)]
        · have := keyB_MH hq
          simp only [AM.look]
          repeat rw [if_neg (by omega)]
    · exact hd9
    refine wlL ?_ <;> and_intros <;> first | exact hdT | (apply zM; (repeat intro ht); apply zM; (repeat intro hg); apply zM)
    refine ⟨i + 1, by omega, by omega, ?_⟩
    rw [hF]
    subst eNB
    rcases hd7 with h | h
    · rw [h]
      simp only [MH, LH]
      have uU := @hr6
      refine rRL ?_ <;> first | exact hdT | apply zN
      exact wkD
    · refine Mv.trans (Mv.swap tk' T ⟨by omega, by omega⟩ ⟨by omega, by omega⟩) ?_
      simp only [MH, LH]
      have uU := @hr6
      refine rRL ?_ <;> first | exact hdT | apply zN
      exact wkD
  · have hil : i = q := by omega
    subst hil
    obtain ⟨hr1, hr2, hr3⟩ := hR.rt i (by omega)
    have hst := mstate (Ls i) n hr1.r0 (k + 16) T kx (by omega) (by omega) (Γ := Γ)
    obtain ⟨SC, eSC⟩ : ∃ c, c = (Ls i).st.cells := ⟨_, rfl⟩
    have hSl : SC.length = 7 := by rw [eSC]; rfl
    rw [← eSC] at hst eRV
    have ht7 : SC.take 7 = SC := by rw [eSC]; rfl
    have hS1 : SC.all AM.one = true := by rw [eSC]; rfl
    have hSc : SC.all clean = true := by rw [eSC]; rfl
    have hz7 : zst7.length = 7 := rfl
    have hz8 : List.drop 7 zst7 = [] := rfl
    have hdel : del (F i) kx = F i := by
      rw [hF]
      simp only [MH, LH]
      have uU := @hr3
      refine rRL ?_ <;> first | exact hdT | apply zN
    have hll : decide ((i : Int) < (i : Int)) = false := by simp
    have uU := zA @hll (zA @hSl (zA @ht7 (zA @hS1 (zA @hSc (zA @hz7 (zA @hz8 (zA @hdel @apN)))))))
    refine wlL ?_ <;> and_intros <;> first | exact hdT | (apply zM; (repeat intro ht); apply zM; (repeat intro hg); apply zM)
    refine clL [.far (.tup [.agg SC, .lit (.int .i64 0)]) kx [(k + 1, ⟨7, true, [zst7]⟩), (k, NB)] (MH (k + 16) T (Ls i)) (MH (k + 16) T (Ls i))] ?_ <;> and_intros <;> first | exact hdT | (apply zM; (repeat intro ht); apply zM; (repeat intro hg); apply zM)
    · exact fun q => by rw [hF]
    · exact fun q hq => by
        rcases hq with hq | hq
        · have := keyB_MH hq
          simp only [AM.look]
          repeat rw [if_neg (by omega)]
        · have := keyB_MH hq
          simp only [AM.look]
          repeat rw [if_neg (by omega)]
    refine wlL ?_ <;> and_intros <;> first | exact hdT | (apply zM; (repeat intro ht); apply zM; (repeat intro hg); apply zM)
    refine C_ret rfl ?_; simp -dsimp -implicitDefEqProofs (disch := omega) only [go_sem, nq0, hll, hSl, ht7, hS1, hSc, hz7, hz8, hdel, List.append_nil, eq_self, ↓reduceIte]; refine ⟨_, rfl, ?_⟩
    rw [eRV]
end Go.Proofs.T
end
section
namespace Go.Proofs.T
open Go Go.AM Go.Proofs
set_option maxRecDepth 20000
variable {Γ : List (Nat × List AVal)}
structure Made (Γ : List (Nat × List AVal)) (x : Nums) (f : Nat → Sm) (n ng : Nat) (Ls : Nat → LSt) : Prop where
  n1 : 1 ≤ n
  n4 : n ≤ 4
  g1 : 1 ≤ ng
  g6 : ng ≤ 6
  z : (Ls 0).tl = []
  rt : ∀ i, i ≤ 900 → Rt (Ls i) n ∧ (Ls i).tl.length ≤ i ∧ (Ls i).sl.length = ng
  lat : ∀ i j, i ≤ j → j ≤ 900 → Later (Ls i) (Ls j)
  made : ∀ nl most q, q = min nl most → q ≤ 100 → most ≤ 1000 → nl ≤ 9223372036854775807 → AM.Pure Tryz.prog Γ 16 [.agg x.cells, .rd 8 nl (fun i => smc (f i)), .lit (.int .i64 (most : Int))] (.tup [.agg (Ls q).st.cells, .lit (.bool true)])
theorem lmades (x : Nums) (hx : NumsOk x) (f : Nat → Sm) (hf : ∀ i, SmOk (f i)) : ∃ n ng Ls, Made Γ x f n ng Ls := by
  have hc0 := hx.c0
  have hg0 := hx.g0
  obtain ⟨qg, hqg⟩ : ∃ q : Nat, x.g % 6 = (q : Int) := ⟨(x.g % 6).toNat, by omega⟩
  obtain ⟨n, hn⟩ : ∃ q : Nat, 1 + x.c % 4 = (q : Int) := ⟨(1 + x.c % 4).toNat, by omega⟩
  obtain ⟨ng, hng⟩ : ∃ g, g = qg + 1 := ⟨_, rfl⟩
  have hok := newL_ok hx (q := qg) (by omega) hn
  have hsl : (newL (cfgS (1 + x.c % 4) x.cr (mkGD x qg).1) n).sl.length = ng := by
    rw [hng, ← (mkGD_len x qg).1]
    exact List.length_replicate
  obtain ⟨Ls, zs, hR⟩ := runs_ex Γ hok rfl (fun i => opn (f i)) (fun i => opn_ok (hf i)) 16 (24 + ng) (26 + ng) (by omega) (by omega)
  rw [hsl] at hR
  refine ⟨n, ng, Ls, by omega, by omega, by omega, by omega, ?_, hR.rt, fun i j h1 h2 => hR.later h1 h2, fun nl most q h1 h2 h3 h4 => ?_⟩
  · rw [hR.z]; rfl
  · refine Pure_of0 rfl rfl (Tr.mono (made_tr x hx f hf nl most q qg n ng h1 h2 h3 h4 hqg hn hng 0 Ls zs (by rw [show 0 + 16 = 16 from rfl, show 0 + (24 + ng) = 24 + ng by omega, show 0 + (26 + ng) = 26 + ng by omega]; exact hR)) (fun _ _ _ h => by rw [h]; exact VLe.refl _))
end Go.Proofs.T
end
section
namespace Go.Proofs.T
open Go Go.AM Go.Proofs
set_option maxRecDepth 20000
theorem awake : Pure Tryz.prog [] 9 [] (.lit (.bool true)) := Pure_true 300 rfl (by kernel_rfl)
end Go.Proofs.T
end
