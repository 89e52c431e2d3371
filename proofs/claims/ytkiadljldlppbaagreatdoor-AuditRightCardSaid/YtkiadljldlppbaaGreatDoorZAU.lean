import Derived.Test.YtkiadljldlppbaaGreatDoorZAT
import Derived.ChangeMaps5
import Derived.Lay
import Derived.MakeChecks
import Derived.Carry
set_option linter.unusedVariables false
set_option linter.unusedSimpArgs false
section
namespace Go.AM
open Go
section
variable {P : Program} {Γ : List (Nat × List AVal)}
theorem Pure_of0 {f : FuncId} {args : List AVal} {r : AVal} (ha : args.all (bd fun _ => false) = true) (hr : bd (fun _ => false) r = true) (hT : Tr P Γ f 0 args [] (fun _ r1 _ => VLe r1 r)) : Pure P Γ f args r := fun k => by
  intro A hA w G ρ cargs hr0 hvs
  have hρ : ρ = noNames := funext fun id => hr0.dom id rfl
  subst hρ
  have hno : ∀ w1 G1 ρ1 A1 A2 u cu, V w1 G1 ρ1 A1 u cu → bd (fun _ => false) u = true → V w1 G1 ρ1 A2 u cu := fun w1 G1 ρ1 A1 A2 u cu h hb =>
    (V_bd h hb).mono (fun _ h => h) (fun _ _ => rfl) (fun _ _ => rfl) (fun i hi => by simp at hi) (fun _ _ => .inr rfl)
  refine (hT noAllow (fun i hi => hi.elim) w G noNames cargs ⟨fun _ _ => rfl, fun id B A' hid => by simp [ofHeap, look] at hid, hr0.inj, hr0.ro, hr0.glob⟩ ⟨hvs.1, fun j u hj => hno _ _ _ _ _ _ _ (hvs.2 j u hj) (all_get ha hj)⟩).mono ?_
  rintro e w' ⟨cv, G', ρ', k1, r1, H1, rfl, hle, hk1, hrel1, hv1, hst⟩
  refine ⟨cv, fun b => G' b ∨ owned ρ' b, noNames, k, r, [], rfl, ⟨rfl, rfl, rfl⟩, Nat.le_refl _, hrel1.fz, ?_, ⟨hst.size, hst.keep, hst.shape, fun b hb => .inl (hst.g b hb), fun b hb => hb.elim (hst.g' b) (fun h => .inr (hst.own b h)), fun b ⟨_, _, h⟩ => (by cases h), fun id _ => .inl rfl, hst.os, hst.tape, hst.output⟩⟩
  exact (V_bd (hle _ _ _ _ _ hv1) hr).mono (fun _ h => .inl h) (fun _ _ => rfl) (fun _ _ => rfl) (fun i hi => by simp at hi) (fun i hi => by simp at hi)
end
end Go.AM
namespace Go.Proofs.T
open Go Go.AM Go.Proofs
set_option maxRecDepth 20000
variable {Γ : List (Nat × List AVal)}
structure Did (Γ : List (Nat × List AVal)) (n ns m T k i : Nat) (o : Opn) (L : LSt) (z : LSt × (Int × Int) × (Nat × Nat)) : Prop where
  rt : Rt z.1 n
  nt : z.1.tl.length ≤ i + 1
  nsl : z.1.sl.length = ns
  lat : Later L z.1
  tk : m + 6 + ns ≤ z.2.2.1
  tk2 : z.2.2.1 < z.2.2.2
  tk3 : z.2.2.1 = T ∨ k ≤ z.2.2.1
  kk : k ≤ z.2.2.2
  tr : Tr Tryz.prog Γ 14 k [.ptr m 0 0, .agg (opc o)] (MH m T L) (fun k1 r1 H1 => k1 = z.2.2.2 ∧ r1 = res2 z.2.1.1 z.2.1.2 ∧ H1 = MH m z.2.2.1 z.1)
structure Runs (Γ : List (Nat × List AVal)) (n ns m T k : Nat) (o : Nat → Opn) (L0 : LSt) (Ls : Nat → LSt) (zs : Nat → LSt × (Int × Int) × (Nat × Nat)) : Prop where
  z : Ls 0 = L0
  s : ∀ i, Ls (i + 1) = (zs i).1
  rt : ∀ i, i ≤ 900 → Rt (Ls i) n ∧ (Ls i).tl.length ≤ i ∧ (Ls i).sl.length = ns
  did : ∀ i, i < 900 → Did Γ n ns m T k i (o i) (Ls i) (zs i)
theorem runs_ex (Γ : List (Nat × List AVal)) {L0 : LSt} {n : Nat} (h : Rt L0 n) (h0 : L0.tl = []) (o : Nat → Opn) (ho : ∀ i, OpnOk (o i)) (m T k : Nat) (hm : m + 6 + L0.sl.length ≤ T) (hk : T < k) : ∃ Ls zs, Runs Γ n L0.sl.length m T k o L0 Ls zs := by
  obtain ⟨ns, ens⟩ : ∃ ns, ns = L0.sl.length := ⟨_, rfl⟩
  rw [← ens] at hm ⊢
  have step : ∀ x : Nat × LSt, ∃ z, (x.1 < 900 → Rt x.2 n → x.2.tl.length ≤ x.1 → x.2.sl.length = ns → Did Γ n ns m T k x.1 (o x.1) x.2 z) := by
    rintro ⟨i, L⟩
    by_cases hc : i < 900 ∧ Rt L n ∧ L.tl.length ≤ i ∧ L.sl.length = ns
    · obtain ⟨h1, h2, h3, h4⟩ := hc
      obtain ⟨L', a, e, tk', k', r1, r2, r3, r4, r5, r6, r7, r8⟩ := mdo L n h2 (o i) (by omega) (ho i) m T k (by omega) hk (Γ := Γ)
      exact ⟨(L', (a, e), (tk', k')), fun _ _ _ _ => ⟨r1, by show L'.tl.length ≤ i + 1; omega, by show L'.sl.length = ns; rw [r2.ns, h4], r2, by show m + 6 + ns ≤ tk'; omega, r5, r6, r7, r8⟩⟩
    · exact ⟨(L, (0, 0), (0, 0)), fun h1 h2 h3 h4 => absurd ⟨h1, h2, h3, h4⟩ hc⟩
  obtain ⟨F, hF⟩ := Classical.axiomOfChoice step
  let Ls : Nat → LSt := fun i => Nat.rec L0 (fun i L => (F (i, L)).1) i
  have hs : ∀ i, Ls (i + 1) = (F (i, Ls i)).1 := fun i => rfl
  have hrt : ∀ i, i ≤ 900 → Rt (Ls i) n ∧ (Ls i).tl.length ≤ i ∧ (Ls i).sl.length = ns := fun i => by
    induction i with
    | zero => exact fun _ => ⟨h, by show L0.tl.length ≤ 0; rw [h0]; exact Nat.le_refl _, ens.symm⟩
    | succ i ih =>
      intro hi
      obtain ⟨a1, a2, a3⟩ := ih (by omega)
      have := hF (i, Ls i) (by show i < 900; omega) a1 a2 a3
      rw [hs]
      exact ⟨this.rt, this.nt, this.nsl⟩
  exact ⟨Ls, fun i => F (i, Ls i), ⟨rfl, hs, hrt, fun i hi => by
    obtain ⟨a1, a2, a3⟩ := hrt i (by omega)
    exact hF (i, Ls i) hi a1 a2 a3⟩⟩
theorem Runs.later {n ns m T k : Nat} {o : Nat → Opn} {L0 : LSt} {Ls : Nat → LSt} {zs : Nat → LSt × (Int × Int) × (Nat × Nat)} (h : Runs Γ n ns m T k o L0 Ls zs) : ∀ {i j : Nat}, i ≤ j → j ≤ 900 → Later (Ls i) (Ls j) := fun {i j} hij => by
  induction j with
  | zero => intro _; obtain rfl : i = 0 := by omega
            exact Later.refl _
  | succ j ih =>
    intro hj
    by_cases e : i = j + 1
    · subst e; exact Later.refl _
    · have := (h.did j (by omega)).lat
      rw [← h.s j] at this
      exact (ih (by omega) (by omega)).trans this
end Go.Proofs.T
end
section
namespace Go.Proofs.T
open Go Go.AM Go.Proofs
set_option maxRecDepth 20000
variable {Γ : List (Nat × List AVal)}
def zst7 : List AVal := [.lit (.int .i64 0), .lit (.int .u64 0), .lit (.slice none 0 0), .lit (.slice none 0 0), .lit (.slice none 0 0), .lit (.slice none 0 0), .lit (.slice none 0 0)]
set_option maxHeartbeats 8000000 in
theorem made_tr (x : Nums) (hx : NumsOk x) (f : Nat → Sm) (hf : ∀ i, SmOk (f i)) (nl most q qg n ng : Nat) (hq : q = min nl most) (hq2 : q ≤ 100) (hm2 : most ≤ 1000) (hnl : nl ≤ 9223372036854775807) (hqg : x.g % 6 = (qg : Int)) (hn : 1 + x.c % 4 = (n : Int)) (hng : ng = qg + 1)
    (k : Nat) (Ls : Nat → LSt) (zs : Nat → LSt × (Int × Int) × (Nat × Nat)) (hR : Runs Γ n ng (k + 16) (k + (24 + ng)) (k + (26 + ng)) (fun i => opn (f i)) (newL (cfgS (1 + x.c % 4) x.cr (mkGD x qg).1) n) Ls zs) :
    Tr Tryz.prog Γ 16 k [.agg x.cells, .rd 8 nl (fun i => smc (f i)), .lit (.int .i64 (most : Int))] [] (fun _ r1 _ => r1 = .tup [.agg (Ls q).st.cells, .lit (.bool true)]) := by
  have hmade := lmade x hx (Γ := Γ)
  rw [hqg, Int.toNat_natCast] at hmade
  have hscr := lscript f hf nl most q hq (by omega) hm2 hnl (Γ := Γ)
  obtain ⟨s, es⟩ : ∃ s, s = cfgS (1 + x.c % 4) x.cr (mkGD x qg).1 := ⟨_, rfl⟩
  have hl := (mkGD_len x qg).1
  have hc0 := hx.c0
  have hg0 := hx.g0
  have hsng : s.ng = ng := by rw [es, hng]; exact hl
  have hnew := mnew s n (by rw [es]; exact hn) (by rw [cfg_eq, es]; exact cfg_mk hx (by omega)) (by omega) (by omega) (by omega) (by omega) (k + 2) (Γ := Γ)
  rw [hsng] at hnew
  rw [← es] at hmade hR
  obtain ⟨kx, ekx⟩ : ∃ kx, kx = k + (25 + ng) := ⟨_, rfl⟩
  obtain ⟨T, eT⟩ : ∃ T, T = k + (24 + ng) := ⟨_, rfl⟩
  rw [show k + 2 + (23 + ng) = kx by omega, show k + 2 + (22 + ng) = T by omega, show k + 2 + 14 = k + 16 from rfl] at hnew
  rw [← eT, show k + (26 + ng) = kx + 1 by omega] at hR
  obtain ⟨RV, eRV⟩ : ∃ r, r = AVal.tup [.agg (Ls q).st.cells, .lit (.bool true)] := ⟨_, rfl⟩
  rw [← eRV]
  refine Tr_at Tryz.func16 rfl 46 rfl (Nat.le_of_ble_eq_true rfl) ?_
  simp only [Nums.cells] at hmade
  obtain ⟨NC, eNC⟩ : ∃ NC, NC = x.cells := ⟨_, rfl⟩
  have kp : Kp [0,1,2,3,6,7,8,9,11,12,24,28,29,30,31] (fun i => i - k) := kpI
  have uU := @Nums.cells.eq_1
  refine wlL ?_; refine zq1 ⟨⟨⟨?_⟩⟩⟩
  refine clL [.ret (.agg [.lit (.int .i64 s.cpus), .lit (.int .u64 s.credit), .rd 2 s.ng (gf s)]), .far (.tup [.ptr (k + 16) 0 0, .lit (.int .i64 0)]) kx [(k + 1, ⟨7, true, [zst7]⟩), (k, ⟨13, true, [x.cells]⟩)] [] (MH (k + 16) T (newL s n))] ?_; refine zq5 ⟨⟨⟨?_⟩⟩⟩ ⟨⟨⟨?_⟩⟩⟩ ⟨⟨⟨?_⟩⟩⟩ ⟨⟨⟨?_⟩⟩⟩ ⟨⟨⟨?_⟩⟩⟩
  · exact hmade
  · exact fun q => rfl
  · exact fun q hq => by
      rcases hq with hq | hq
      · simp [keyB, AM.look] at hq
      · have := keyB_MH hq
        simp only [AM.look]
        repeat rw [if_neg (by omega)]
  · exact hnew
  refine wlL ?_; refine zq3 ⟨fun ht => ⟨fun hg => ⟨?_⟩⟩⟩ ⟨fun ht => ⟨fun hg => ⟨?_⟩⟩⟩ ⟨fun ht => ⟨fun hg => ⟨?_⟩⟩⟩
  rotate_left 1
  · decide
  · exact absurd trivial hg
  obtain ⟨F, hF⟩ : ∃ F : Nat → Heap, ∀ i, F i = MH (k + 16) T (Ls i) := ⟨_, fun _ => rfl⟩
  rw [← hR.z, ← hF 0]
  refine clL [.ret (.rd 8 q (fun i => opc (opn (f i))))] ?_; refine zq2 ⟨⟨⟨?_⟩⟩⟩ ⟨⟨⟨?_⟩⟩⟩
  · exact hscr
  refine wlL ?_; refine zq1 ⟨⟨⟨?_⟩⟩⟩
  obtain ⟨NB, eNB⟩ : ∃ B : Blk, B = ⟨13, true, [[.lit (.int .u8 x.c), .lit (.int .u8 x.g), .lit (.int .u32 x.cr), .lit (.int .u8 (x.p 0)), .lit (.int .u8 (x.p 1)), .lit (.int .u8 (x.p 2)), .lit (.int .u8 (x.p 3)), .lit (.int .u8 (x.p 4)), .lit (.int .u16 (x.w 0)), .lit (.int .u16 (x.w 1)), .lit (.int .u16 (x.w 2)), .lit (.int .u16 (x.w 3)), .lit (.int .u16 (x.w 4))]]⟩ := ⟨_, rfl⟩
  refine M_forO (X := Nat) rfl [0,1,2,3,6,7,8,9,11,12,24,28,29,30,31] kx (fun i => [(30, .lit (.int .i64 (i : Int)))]) (fun i => (k + 1, ⟨7, true, [zst7]⟩) :: (k, NB) :: F i) (fun i => i ≤ q) (fun i => q - i) 0 ?_ (Nat.zero_le _) ?_
  · have hl0 := (hR.rt 0 (by omega)).2.2
    rw [eNB, hF 0]
    simp only [MH, LH]
    have uU := @hl0
    refine rRL ?_; apply zN
    exact wkD
  intro i hi
  refine rRL ?_; apply zN
  by_cases hi2 : i < q
  · obtain ⟨hd1, hd2, hd3, hd4, hd5, hd6, hd7, hd8, hd9⟩ := hR.did i (by omega)
    rw [← hR.s i] at hd9
    obtain ⟨hr1, hr2, hr3⟩ := hR.rt i (by omega)
    obtain ⟨hr4, hr5, hr6⟩ := hR.rt (i + 1) (by omega)
    obtain ⟨tk', etk⟩ : ∃ t, t = (zs i).2.2.1 := ⟨_, rfl⟩
    obtain ⟨kk', ekk⟩ : ∃ t, t = (zs i).2.2.2 := ⟨_, rfl⟩
    obtain ⟨ra, era⟩ : ∃ t, t = (zs i).2.1.1 := ⟨_, rfl⟩
    obtain ⟨re, ere⟩ : ∃ t, t = (zs i).2.1.2 := ⟨_, rfl⟩
    rw [← etk] at hd5 hd6 hd7 hd9
    rw [← ekk] at hd6 hd8 hd9
    rw [← era, ← ere] at hd9
    simp only [opc, res2] at hd9
    have hdel : del (F i) kx = F i := by
      rw [hF]
      simp only [MH, LH]
      have uU := @hr3
      exact rRL hdT
    have uU := zA @Nums.cells.eq_1 @hdel
    refine wlL ?_; refine zq1 ⟨fun ht => ⟨⟨?_⟩⟩⟩
    refine clL [.far (res2 ra re) kk' [(kx, ⟨8, true, [opc (opn (f i))]⟩), (k + 1, ⟨7, true, [zst7]⟩), (k, NB)] (MH (k + 16) T (Ls i)) (MH (k + 16) tk' (Ls (i + 1)))] ?_; refine zq4 ⟨⟨⟨?_⟩⟩⟩ ⟨⟨⟨?_⟩⟩⟩ ⟨⟨⟨?_⟩⟩⟩ ⟨⟨⟨?_⟩⟩⟩
    · exact fun q => by rw [hF]
    · exact fun q hq => by
        rcases hq with hq | hq
        · have := keyB_MH hq
          simp only [AM.look]
          repeat rw [if_neg (by omega)]
        · have := keyB_MH hq
          simp only [AM.look]
          repeat rw [if_neg (by omega)]
    · exact hd9
    refine wlL ?_; refine zq1 ⟨⟨⟨?_⟩⟩⟩
    refine ⟨i + 1, by omega, by omega, ?_⟩
    rw [hF]
    subst eNB
    rcases hd7 with h | h
    · rw [h]
      simp only [MH, LH]
      have uU := @hr6
      refine rRL ?_; apply zN
      exact wkD
    · refine Mv.trans (Mv.swap tk' T ⟨by omega, by omega⟩ ⟨by omega, by omega⟩) ?_
      simp only [MH, LH]
      have uU := @hr6
      refine rRL ?_; apply zN
      exact wkD
  · have hil : i = q := by omega
    subst hil
    obtain ⟨hr1, hr2, hr3⟩ := hR.rt i (by omega)
    have hst := mstate (Ls i) n hr1.r0 (k + 16) T kx (by omega) (by omega) (Γ := Γ)
    obtain ⟨SC, eSC⟩ : ∃ c, c = (Ls i).st.cells := ⟨_, rfl⟩
    have hSl : SC.length = 7 := by rw [eSC]; rfl
    rw [← eSC] at hst eRV
    have ht7 : SC.take 7 = SC := by rw [eSC]; rfl
    have hS1 : SC.all AM.one = true := by rw [eSC]; rfl
    have hSc : SC.all clean = true := by rw [eSC]; rfl
    have hz7 : zst7.length = 7 := rfl
    have hz8 : List.drop 7 zst7 = [] := rfl
    have hdel : del (F i) kx = F i := by
      rw [hF]
      simp only [MH, LH]
      have uU := @hr3
      exact rRL hdT
    have hll : decide ((i : Int) < (i : Int)) = false := by simp
    have uU := zA @hll (zA @hSl (zA @ht7 (zA @hS1 (zA @hSc (zA @hz7 (zA @hz8 (zA @hdel @apN)))))))
    refine wlL ?_; refine zq1 ⟨fun ht => ⟨⟨?_⟩⟩⟩
    refine clL [.far (.tup [.agg SC, .lit (.int .i64 0)]) kx [(k + 1, ⟨7, true, [zst7]⟩), (k, NB)] (MH (k + 16) T (Ls i)) (MH (k + 16) T (Ls i))] ?_; refine zq3 ⟨⟨⟨?_⟩⟩⟩ ⟨⟨⟨?_⟩⟩⟩ ⟨⟨⟨?_⟩⟩⟩
    · exact fun q => by rw [hF]
    · exact fun q hq => by
        rcases hq with hq | hq
        · have := keyB_MH hq
          simp only [AM.look]
          repeat rw [if_neg (by omega)]
        · have := keyB_MH hq
          simp only [AM.look]
          repeat rw [if_neg (by omega)]
    refine wlL ?_; refine zq1 ⟨⟨⟨?_⟩⟩⟩
    have uU := zA @hll (zA @hSl (zA @ht7 (zA @hS1 (zA @hSc (zA @hz7 (zA @hz8 (zA @hdel @apN))))))); refine cRD ?_; apply zN
    rw [eRV]
end Go.Proofs.T
end
section
namespace Go.Proofs.T
open Go Go.AM Go.Proofs
set_option maxRecDepth 20000
variable {Γ : List (Nat × List AVal)}
structure Made (Γ : List (Nat × List AVal)) (x : Nums) (f : Nat → Sm) (n ng : Nat) (Ls : Nat → LSt) : Prop where
  n1 : 1 ≤ n
  n4 : n ≤ 4
  g1 : 1 ≤ ng
  g6 : ng ≤ 6
  z : (Ls 0).tl = []
  rt : ∀ i, i ≤ 900 → Rt (Ls i) n ∧ (Ls i).tl.length ≤ i ∧ (Ls i).sl.length = ng
  lat : ∀ i j, i ≤ j → j ≤ 900 → Later (Ls i) (Ls j)
  made : ∀ nl most q, q = min nl most → q ≤ 100 → most ≤ 1000 → nl ≤ 9223372036854775807 → AM.Pure Tryz.prog Γ 16 [.agg x.cells, .rd 8 nl (fun i => smc (f i)), .lit (.int .i64 (most : Int))] (.tup [.agg (Ls q).st.cells, .lit (.bool true)])
theorem lmades (x : Nums) (hx : NumsOk x) (f : Nat → Sm) (hf : ∀ i, SmOk (f i)) : ∃ n ng Ls, Made Γ x f n ng Ls := by
  have hc0 := hx.c0
  have hg0 := hx.g0
  obtain ⟨qg, hqg⟩ : ∃ q : Nat, x.g % 6 = (q : Int) := ⟨(x.g % 6).toNat, by omega⟩
  obtain ⟨n, hn⟩ : ∃ q : Nat, 1 + x.c % 4 = (q : Int) := ⟨(1 + x.c % 4).toNat, by omega⟩
  obtain ⟨ng, hng⟩ : ∃ g, g = qg + 1 := ⟨_, rfl⟩
  have hok := newL_ok hx (q := qg) (by omega) hn
  have hsl : (newL (cfgS (1 + x.c % 4) x.cr (mkGD x qg).1) n).sl.length = ng := by
    rw [hng, ← (mkGD_len x qg).1]
    exact List.length_replicate
  obtain ⟨Ls, zs, hR⟩ := runs_ex Γ hok rfl (fun i => opn (f i)) (fun i => opn_ok (hf i)) 16 (24 + ng) (26 + ng) (by omega) (by omega)
  rw [hsl] at hR
  refine ⟨n, ng, Ls, by omega, by omega, by omega, by omega, ?_, hR.rt, fun i j h1 h2 => hR.later h1 h2, fun nl most q h1 h2 h3 h4 => ?_⟩
  · rw [hR.z]; rfl
  · refine Pure_of0 rfl rfl (Tr.mono (made_tr x hx f hf nl most q qg n ng h1 h2 h3 h4 hqg hn hng 0 Ls zs (by rw [show 0 + 16 = 16 from rfl, show 0 + (24 + ng) = 24 + ng by omega, show 0 + (26 + ng) = 26 + ng by omega]; exact hR)) (fun _ _ _ h => by rw [h]; exact VLe.refl _))
end Go.Proofs.T
end
section
namespace Go.Proofs.T
open Go Go.AM Go.Proofs
set_option maxRecDepth 20000
theorem awake : Pure Tryz.prog [] 9 [] (.lit (.bool true)) := Pure_true 300 rfl (by kernel_rfl)
end Go.Proofs.T
end
section
namespace Go.Proofs.T
open Go Go.AM Go.Proofs
set_option maxRecDepth 20000
theorem vle2 {a b c : AVal} (h : VLe a b) : VLes [a, c] [b, c] := .cons h (.cons (VLe.refl _) .nil)
set_option maxHeartbeats 8000000 in
theorem auditRight (x : Nums) (hx : NumsOk x) (f : Nat → Sm) (hf : ∀ i, SmOk (f i)) (nl : Nat) (hnl : nl ≤ 9223372036854775807) (a c : Int) (ha0 : 0 ≤ a) (ha1 : a ≤ 255) (hc0 : 0 ≤ c) (hc1 : c ≤ 255) :
    AM.Pure Tryz.prog [] 7 [.agg x.cells, .rd 8 nl (fun i => smc (f i)), .lit (.int .u8 a), .lit (.int .u8 c)] (.lit (.bool true)) := by
  obtain ⟨n, ng, Ls, hM⟩ := lmades x hx f hf (Γ := [])
  obtain ⟨q, hq⟩ : ∃ q, q = min nl 40 := ⟨_, rfl⟩
  have hq2 : q ≤ 40 := by omega
  have hmade := hM.made nl 40 q hq (by omega) (by omega) hnl
  obtain ⟨hrt, htl, hsl⟩ := hM.rt q (by omega)
  have hn4 := hM.n4
  have hg6 := hM.g6
  have hpre : PreS (Ls q).st 0 := hrt.r0.pre hn4 (by omega) (by omega)
  have hck := check_eq (Ls q).st (hpre.pre (by omega)) hpre.k (Γ := [])
  have hno := check_no hrt.r0 hrt.fl (by omega) hrt.cfg
  have hri := rightL [] (Ls q) hpre (by omega)
  rw [hno] at hck hri
  have hck : AM.Pure Tryz.prog [] 20 [.agg (Ls q).st.cells] (.rd 3 0 (fun _ => [])) := hck
  obtain ⟨wa, hwa⟩ : ∃ w : Nat, a % 40 = (w : Int) := ⟨(a % 40).toNat, by omega⟩
  obtain ⟨wc, hwc⟩ : ∃ w : Nat, c % 40 = (w : Int) := ⟨(c % 40).toNat, by omega⟩
  obtain ⟨s1, hp1, hs1⟩ := spoilt_ex [] hpre (by omega) wa (by omega)
  obtain ⟨s2, hp2, hs2⟩ := spoilt_ex [] hp1 (by omega) wc (by omega)
  have hs2 := Pure_arg hs2 (vle2 (cellsZ_le s1))
  obtain ⟨X, hX0, hX1, hXp⟩ : ∃ X : Nat → St, X 0 = s1 ∧ X 1 = s2 ∧ ∀ j, j < 2 → PreS (X j) 2 := ⟨fun j => if j = 0 then s1 else s2, rfl, rfl, fun j hj => by
    by_cases e : j = 0
    · subst e; exact hp1.mono (by omega)
    · dsimp only; rw [if_neg e]; exact hp2⟩
  have e1 : a.tmod 40 = (wa : Int) := by rw [Int.tmod_eq_emod_of_nonneg ha0, hwa]
  have e2 : c.tmod 40 = (wc : Int) := by rw [Int.tmod_eq_emod_of_nonneg hc0, hwc]
  have e3 : IntKind.i64.wrap a = a := wrap_i64 (by omega) (by omega)
  have e4 : IntKind.i64.wrap c = c := wrap_i64 (by omega) (by omega)
  obtain ⟨S, eS⟩ : ∃ S, S = (Ls q).st.cells := ⟨_, rfl⟩
  have hSl : S.length = 7 := by rw [eS]; rfl
  have hSt : S.take 7 = S := by rw [eS]; rfl
  have hSo : S.all AM.one = true := by rw [eS]; rfl
  have hSc : S.all clean = true := by rw [eS]; rfl
  have hSb : ∀ p : Nat → Bool, S.all (bd0 p) = true := fun p => by rw [eS]; rfl
  have hSd : List.drop 7 S = [] := by rw [eS]; rfl
  obtain ⟨Z, hZ⟩ : ∃ Z : Nat → List AVal, ∀ j, Z j = cellsZ (X j) := ⟨_, fun _ => rfl⟩
  have hZl : ∀ j, (Z j).length = 7 := fun j => by rw [hZ]; rfl
  have hZt : ∀ j, (Z j).take 7 = Z j := fun j => by rw [hZ]; rfl
  have hZo : ∀ j, (Z j).all AM.one = true := fun j => by rw [hZ]; unfold cellsZ; split <;> rfl
  have hZc : ∀ j, (Z j).all clean = true := fun j => by rw [hZ]; unfold cellsZ; split <;> rfl
  have hZb : ∀ (p : Nat → Bool) j, (Z j).all (bd0 p) = true := fun p j => by rw [hZ]; unfold cellsZ; split <;> rfl
  have hZd : ∀ j, List.drop 7 (Z j) = [] := fun j => by rw [hZ]; rfl
  have hZta : ∀ j l, List.take 7 (Z j ++ l) = Z j := fun j l => List.take_left' (hZl j)
  have hZdb : ∀ j l, List.drop 7 (Z j ++ l) = l := fun j l => List.drop_left' (hZl j)
  have hZda : ∀ j (l : List AVal), List.drop 14 (Z j ++ l) = List.drop 7 l := fun j l => by rw [show 14 = 7 + 7 from rfl, ← List.drop_drop, hZdb]
  rw [← eS] at hmade hck hri hs1
  rw [← hX0, ← hZ] at hs1
  rw [← hX0, ← hX1, ← hZ, ← hZ] at hs2
  obtain ⟨NC, eNC⟩ : ∃ NC, NC = x.cells := ⟨_, rfl⟩
  have hNl : NC.length = 13 := by rw [eNC]; rfl
  have hNt : NC.take 13 = NC := by rw [eNC]; rfl
  have hNo : NC.all AM.one = true := by rw [eNC]; rfl
  have hNc : NC.all clean = true := by rw [eNC]; rfl
  have hNb : ∀ p : Nat → Bool, NC.all (bd0 p) = true := fun p => by rw [eNC]; rfl
  have hNd : List.drop 13 NC = [] := by rw [eNC]; rfl
  rw [← eNC] at hmade
  rw [← eNC]
  refine Pure_at Tryz.func7 rfl 86 rfl (Nat.le_of_ble_eq_true rfl) rfl fun k => ?_
  have kp : Kp [0,1,2,3,4,8,9,10,12,13,14,15,17,36,51,52,53,54,84] (fun i => i - k) := kpI
  have uU := zA @hSl (zA @hSt (zA @hSo (zA @hSc (zA @hSb (zA @hSd (zA @hNl (zA @hNt (zA @hNo (zA @hNc (zA @hNb (zA @hNd @apN)))))))))))
  refine wl ?_; refine zq1 ⟨⟨⟨?_⟩⟩⟩
  refine cl [.ret (.lit (.bool true))] ?_; refine zq2 ⟨⟨⟨?_⟩⟩⟩ ⟨⟨⟨?_⟩⟩⟩
  · exact awake
  refine wl ?_; refine zq1 ⟨fun ht => ⟨⟨?_⟩⟩⟩
  refine cl [.ret (.tup [.agg S, .lit (.bool true)])] ?_; refine zq2 ⟨⟨⟨?_⟩⟩⟩ ⟨⟨⟨?_⟩⟩⟩
  · exact hmade
  refine wl ?_; refine zq1 ⟨⟨⟨?_⟩⟩⟩
  refine cl [.ret (.rd 3 0 (fun _ => [])), .ret (.lit (.bool true))] ?_; refine zq3 ⟨⟨fun hg => ⟨?_⟩⟩⟩ ⟨⟨fun hg => ⟨?_⟩⟩⟩ ⟨⟨fun hg => ⟨?_⟩⟩⟩
  all_goals (try (first | exact hck | exact hri))
  all_goals (try (exact absurd trivial ‹¬True›))
  refine wl ?_; refine zq1 ⟨fun ht => ⟨⟨?_⟩⟩⟩
  have uU := zA @hSl (zA @hSt (zA @hSo (zA @hSc (zA @hSb (zA @hSd (zA @hNl (zA @hNt (zA @hNo (zA @hNc (zA @hNb (zA @hNd (zA @apN (zA @e1 (zA @e2 (zA @e3 (zA @e4 (zA @hZl (zA @hZt (zA @hZo (zA @hZc (zA @hZb (zA @hZd (zA @hZta (zA @hZdb @hZda))))))))))))))))))))))))
  refine dl [.ret (.agg (Z 0)), .ret (.agg (Z 0)), .ret (.agg (Z 1))] ?_; refine zq1 ⟨⟨⟨?_⟩⟩⟩
  all_goals (try (first | exact hs1 | exact hs2))
  obtain ⟨R, eR⟩ : ∃ R, R = [Z 0, Z 1] := ⟨_, rfl⟩
  have hRl : R.length = 2 := by rw [eR]; rfl
  have hRg : ∀ j : Nat, j < 2 → R[j]? = some (Z j) := fun j hj => by
    rw [eR]
    match j, hj with
    | 0, _ => rfl
    | 1, _ => rfl
  rw [← eR]
  refine wl ?_; refine zq1 ⟨⟨⟨?_⟩⟩⟩
  refine M_forO (X := Nat) rfl [0,1,2,3,4,8,9,10,12,13,14,15,17,36,51,52,53,54,84] (k + 3) (fun j => [(53, .lit (.int .i64 (j : Int)))]) (fun j => [(k + 2, ⟨7, true, R⟩), (k + 1, ⟨7, true, [S]⟩), (k, ⟨13, true, [NC]⟩)]) (fun j => j ≤ 2) (fun j => 2 - j) 0 ?_ (Nat.zero_le _) ?_
  · refine rR ?_; apply zN
    (have uU := zA @hSl (zA @hSt (zA @hSo (zA @hSc (zA @hSb (zA @hSd (zA @hNl (zA @hNt (zA @hNo (zA @hNc (zA @hNb (zA @hNd (zA @apN (zA @e1 (zA @e2 (zA @e3 (zA @e4 (zA @hZl (zA @hZt (zA @hZo (zA @hZc (zA @hZb (zA @hZd (zA @hZta (zA @hZdb @hZda)))))))))))))))))))))))); exact wkU)
  intro j hj
  refine rR ?_; apply zN
  by_cases hj2 : j < 2
  · have hRj := hRg j hj2
    have cZ := checkZ [] (hXp j hj2) (by omega)
    have lZ := loadZ [] (hXp j hj2) (by omega)
    have rZ := rightZ [] (hXp j hj2) (by omega)
    rw [← hZ] at cZ lZ rZ
    obtain ⟨m, hm⟩ : ∃ m, m = ((chk0 (X j)).map Flt.row).length := ⟨_, rfl⟩
    obtain ⟨FR, hFR⟩ : ∃ FR : Nat → List AVal, FR = fun i => ((chk0 (X j)).map Flt.row).getD i [] := ⟨_, rfl⟩
    have cZ : AM.Pure Tryz.prog [] 20 [.agg (Z j)] (.rd 3 m FR) := by rw [hm, hFR]; exact cZ
    rw [List.length_map] at hm
    unfold loadR at lZ
    by_cases he : (chk0 (X j)).isEmpty = true
    · rw [he] at rZ
      rw [if_pos he] at lZ
      obtain rfl : m = 0 := by rw [hm, List.isEmpty_iff.1 he]; rfl
      obtain ⟨LC, eLC⟩ : ∃ LC, LC = (X j).cells ++ [.lit (.bool true)] := ⟨_, rfl⟩
      rw [← eLC] at lZ
      have uU := zA @hNl (zA @hNt (zA @hNo (zA @hNc (zA @hNb (zA @hNd (zA @apN (zA @hZl (zA @hZt (zA @hZo (zA @hZc (zA @hZb (zA @hZd (zA @hZta (zA @hZdb (zA @hZda (zA @hRl @hRj))))))))))))))))
      refine wl ?_; refine zq1 ⟨fun ht => ⟨⟨?_⟩⟩⟩
      refine cl [.ret (.rd 3 0 FR)] ?_; refine zq1 ⟨⟨⟨?_⟩⟩⟩
      all_goals (try exact cZ)
      refine wl ?_; refine zq1 ⟨⟨⟨?_⟩⟩⟩
      refine cl [.ret (.tup [.rp LC, .lit (.int .i64 0)])] ?_; refine zq1 ⟨⟨⟨?_⟩⟩⟩
      all_goals (try exact lZ)
      refine wl ?_; refine zq1 ⟨⟨⟨?_⟩⟩⟩
      refine cl [.ret (.lit (.bool true))] ?_; refine zq1 ⟨⟨⟨?_⟩⟩⟩
      all_goals (try exact rZ)
      all_goals (try exact absurd trivial ‹¬True›)
      refine wl ?_; refine zq1 ⟨fun ht => ⟨⟨?_⟩⟩⟩
      refine ⟨j + 1, by omega, by omega, ?_⟩
      refine rR ?_; apply zN
      (have uU := zA @hNl (zA @hNt (zA @hNo (zA @hNc (zA @hNb (zA @hNd (zA @apN (zA @hZl (zA @hZt (zA @hZo (zA @hZc (zA @hZb (zA @hZd (zA @hZta (zA @hZdb (zA @hZda (zA @hRl @hRj)))))))))))))))); exact wkU)
    · have he' : (chk0 (X j)).isEmpty = false := by simpa using he
      rw [he'] at rZ
      rw [if_neg he] at lZ
      have h2a : ((2 : Int) != 0) = true := rfl
      have h2b : ((2 : Int) == 0) = false := rfl
      have hm0 : ¬ m = 0 := fun e => by
        rw [hm] at e
        rw [List.eq_nil_of_length_eq_zero e] at he'
        cases he'
      have uU := zA @hNl (zA @hNt (zA @hNo (zA @hNc (zA @hNb (zA @hNd (zA @apN (zA @hZl (zA @hZt (zA @hZo (zA @hZc (zA @hZb (zA @hZd (zA @hZta (zA @hZdb (zA @hZda (zA @hRl (zA @hRj (zA @hm0 (zA @h2a @h2b)))))))))))))))))))
      refine wl ?_; refine zq1 ⟨fun ht => ⟨⟨?_⟩⟩⟩
      refine cl [.ret (.rd 3 m FR)] ?_; refine zq1 ⟨⟨⟨?_⟩⟩⟩
      all_goals (try exact cZ)
      refine wl ?_; refine zq1 ⟨⟨⟨?_⟩⟩⟩
      refine cl [.ret (.tup [.lit (.pointer none), .lit (.int .i64 2)])] ?_; refine zq1 ⟨⟨⟨?_⟩⟩⟩
      all_goals (try exact lZ)
      refine wl ?_; refine zq1 ⟨⟨⟨?_⟩⟩⟩
      refine cl [.ret (.lit (.bool false))] ?_; refine zq1 ⟨⟨fun hg => ⟨?_⟩⟩⟩
      all_goals (try exact rZ)
      all_goals (try exact absurd trivial ‹¬True›)
      refine wl ?_; refine zq1 ⟨fun ht => ⟨⟨?_⟩⟩⟩
      refine ⟨j + 1, by omega, by omega, ?_⟩
      refine rR ?_; apply zN
      (have uU := zA @hNl (zA @hNt (zA @hNo (zA @hNc (zA @hNb (zA @hNd (zA @apN (zA @hZl (zA @hZt (zA @hZo (zA @hZc (zA @hZb (zA @hZd (zA @hZta (zA @hZdb (zA @hZda (zA @hRl (zA @hRj (zA @hm0 (zA @h2a @h2b))))))))))))))))))); exact wkU)
  · have hj3 : j = 2 := by omega
    subst hj3
    have uU := zA @hNl (zA @hNt (zA @hNo (zA @hNc (zA @hNb (zA @hNd (zA @apN @hRl))))))
    refine wl ?_; refine zq1 ⟨fun ht => ⟨⟨?_⟩⟩⟩
    refine C_ret rfl ⟨_, rfl, VLe.refl _⟩
end Go.Proofs.T
end
section
namespace Go.Proofs.T
open Go Go.AM Go.Proofs Go.ChangeMaps Go.ChangeShapes Go.WideShapes Go.ChangeAt Go.WideMaps Go.WideElems Go.RowKit Go.Proofs.YtkiadljldlppbaaGreatDoor
set_option maxRecDepth 100000
def zeroNums : Value := .agg #[.int .u8 0, .int .u8 0, .int .u32 0, .int .u8 0, .int .u8 0, .int .u8 0, .int .u8 0, .int .u8 0, .int .u16 0, .int .u16 0, .int .u16 0, .int .u16 0, .int .u16 0]
theorem vs_four {W : World} {G : Nat → Prop} {ρ : Names} {A : Allow} {a b c d : AVal} {x y z u : Value} (h : V W G ρ A a x) (h' : V W G ρ A b y) (h'' : V W G ρ A c z) (h3 : V W G ρ A d u) : Vs W G ρ A [a, b, c, d] #[x, y, z, u] :=
  ⟨rfl, fun j w hj => by
    match j with
    | 0 => cases hj; exact h
    | 1 => cases hj; exact h'
    | 2 => cases hj; exact h''
    | 3 => cases hj; exact h3
    | j + 4 => simp at hj⟩
theorem liftedR (os : Os) (started : os.Started) (H : Type) (enc : TypeId × Value → H) :
    ReturnsInHanded {} Tryz.checked os 7 .any (fun w args => (Rows.auditRightSpec.pre enc Tryz.prog Tryz.f7 [] false w args ∧ laidMetH Tryz.prog Rows.auditRightRow.laid w) ∧ sizedMet enc Tryz.prog Tryz.f7 (OpenSpec.ofChange Rows.auditRightSpec) false w args)
      (Rows.auditRightSpec.post enc Tryz.prog Tryz.f7 false true false false) := by
  refine returnsInHanded_of_change_and (C := Tryz.checked) (X := fun w _ => laidMetH Tryz.prog Rows.auditRightRow.laid w) (fun _ _ _ hh h => h.of_heap hh) ownK started (by kernel_rfl) Tryz.func7
    (ChangeSpec.witness_shaped (enc := enc) (C := Tryz.checked) (os := os) (X := fun w _ => laidMetH Tryz.prog Rows.auditRightRow.laid w) false (World.laidAll Tryz.prog os Rows.auditRightRow.laid) #[zeroNums, .slice none 0 0, .int .u8 0, .int .u8 0] 8 (World.laidAll_os _ _ _) (World.shaped_of_ZipB (by kernel_rfl) (by kernel_rfl)) (by kernel_rfl) (by kernel_rfl) (by kernel_rfl)
      (by rw [MakeChecks.laidMetH_plain _ _ _ (by kernel_rfl)]; exact laidMet_laidAll _ (by kernel_rfl) (by kernel_rfl))) ?_
  intro W base args ds gs before hval0 hW _ _ hL _
  have hval : ∀ (j : Nat) t v, Tryz.f7.params[j]? = some t → args[j]? = some v → Value.okWide Tryz.prog W .any base t v := hval0
  have hW' := hW
  obtain ⟨p, q, hA0, hV, rfl, hfz, hnd⟩ := hW
  have hA : DataW.TrodAll enc Tryz.prog W 0 (fun _ => true) true Tryz.f7.params.toList args.toList ds p := hA0
  rw [Tryz.params7] at hA hval
  obtain ⟨v0, v1, v2, v3, d0, d1, d2, d3, p0, p1, p2, p3, rfl, rfl, rfl, h0, h1, h2, h3⟩ := trodAll_four hA
  obtain ⟨rfl, rfl⟩ := trodVars_none hV
  clear hA0 hval0
  obtain ⟨x, hx, hv0⟩ := nums_of (hval 0 27 v0 rfl rfl) h0
  obtain ⟨n, f, hn, hf, hv1⟩ := smalls_of (hval 1 28 v1 rfl rfl) h1
  obtain ⟨z, rfl, rfl, rfl, hz⟩ := open_int Tryz.underlying5 (hval 2 5 v2 rfl rfl) h2
  obtain ⟨y, rfl, rfl, rfl, hy⟩ := open_int Tryz.underlying5 (hval 3 5 v3 rfl rfl) h3
  have hz' := u8_rng hz
  have hy' := u8_rng hy
  refine (row_call (auditRight x hx f hf n hn z y hz'.1 hz'.2 hy'.1 hy'.2) (vs_four hv0 hv1 (.lit (v := .int .u8 z)) (.lit (v := .int .u8 y)))).mono fun e W' ⟨he, hb⟩ => ?_
  subst he
  have hlt0 : ∀ x ∈ p0, x.block < W.heap.size := fun x hx => hW'.lt x (by simp [hx])
  have hlt1 : ∀ x ∈ p1, x.block < W.heap.size := fun x hx => hW'.lt x (by simp [hx])
  refine ⟨_, rfl, _, _, _, [], p0 ++ (p1 ++ []), [], hW', ?_, ?_, rfl, keptBut_below hb _, fun h => by cases h⟩
  · exact trodAll_mk1 (shut_bool Tryz.underlying4 true)
  · exact trodAll_mk4 (Below.trod laidOut (by kernel_rfl) (of_decide_eq_true (by kernel_rfl)) h0 hb hlt0) (Below.trod laidOut (by kernel_rfl) (of_decide_eq_true (by kernel_rfl)) h1 hb hlt1) (shut_int Tryz.underlying5 hz) (shut_int Tryz.underlying5 hy)
theorem auditRight_holds : Rows.AuditRightSaid :=
  OpenClaim.holds_of_wide 7 Tryz.f7 rfl rfl rfl rfl rfl rfl rfl ⟨rfl, rfl, rfl, rfl, rfl⟩ rfl rfl rfl rfl rfl (by kernel_rfl) Tryz.func7 (by kernel_rfl)
    (of_decide_eq_true (by kernel_rfl)) (by unfold Func.isWrapper; first | (rw [if_pos (by decide +kernel)]; kernel_rfl) | (rw [if_neg (by decide +kernel)]; exact ⟨rfl, rfl⟩))
    (fun os started H enc _ => liftedR os started H enc)
end Go.Proofs.T
end
