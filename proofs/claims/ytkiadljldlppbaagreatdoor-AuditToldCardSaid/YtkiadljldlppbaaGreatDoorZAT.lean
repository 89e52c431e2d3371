import Derived.Test.YtkiadljldlppbaaGreatDoorZAS
import Derived.Shelf.Strconv.Itoa3
import Derived.Shelf.Strconv.AtoiAll
import Derived.Shelf.Strings.Split
import Derived.Lib.ItoaNum
import Derived.Lib.ItoaMem
import Derived.Lib.AtoiAll
import Derived.Lib.Split
import Derived.Test.YtkiadljldlppbaaGreatDoorProg
import Derived.KernelRfl
import Derived.HandedShaped
import Derived.Stop.LaidErr
import Derived.LaidSub
import Derived.Shelf.Vars
import Derived.Test.YtkiadljldlppbaaGreatDoorRows
import Derived.ChangeMaps5
import Derived.Lay
import Derived.MakeChecks
set_option linter.unusedVariables false
set_option linter.unusedSimpArgs false
section
namespace Go.AM
open Go
section
variable {P : Program} {Γ : List (Nat × List AVal)}
theorem Pure_of0 {f : FuncId} {args : List AVal} {r : AVal} (ha : args.all (bd fun _ => false) = true) (hr : bd (fun _ => false) r = true) (hT : Tr P Γ f 0 args [] (fun _ r1 _ => VLe r1 r)) : Pure P Γ f args r := fun k => by
  intro A hA w G ρ cargs hr0 hvs
  have hρ : ρ = noNames := funext fun id => hr0.dom id rfl
  subst hρ
  have hno : ∀ w1 G1 ρ1 A1 A2 u cu, V w1 G1 ρ1 A1 u cu → bd (fun _ => false) u = true → V w1 G1 ρ1 A2 u cu := fun w1 G1 ρ1 A1 A2 u cu h hb =>
    (V_bd h hb).mono (fun _ h => h) (fun _ _ => rfl) (fun _ _ => rfl) (fun i hi => by simp at hi) (fun _ _ => .inr rfl)
  refine (hT noAllow (fun i hi => hi.elim) w G noNames cargs ⟨fun _ _ => rfl, fun id B A' hid => by simp [ofHeap, look] at hid, hr0.inj, hr0.ro, hr0.glob⟩ ⟨hvs.1, fun j u hj => hno _ _ _ _ _ _ _ (hvs.2 j u hj) (all_get ha hj)⟩).mono ?_
  rintro e w' ⟨cv, G', ρ', k1, r1, H1, rfl, hle, hk1, hrel1, hv1, hst⟩
  refine ⟨cv, fun b => G' b ∨ owned ρ' b, noNames, k, r, [], rfl, ⟨rfl, rfl, rfl⟩, Nat.le_refl _, hrel1.fz, ?_, ⟨hst.size, hst.keep, hst.shape, fun b hb => .inl (hst.g b hb), fun b hb => hb.elim (hst.g' b) (fun h => .inr (hst.own b h)), fun b ⟨_, _, h⟩ => (by cases h), fun id _ => .inl rfl, hst.os, hst.tape, hst.output⟩⟩
  exact (V_bd (hle _ _ _ _ _ hv1) hr).mono (fun _ h => .inl h) (fun _ _ => rfl) (fun _ _ => rfl) (fun i hi => by simp at hi) (fun i hi => by simp at hi)
end
end Go.AM
namespace Go.Proofs.T
open Go Go.AM Go.Proofs
set_option maxRecDepth 20000
variable {Γ : List (Nat × List AVal)}
structure Did (Γ : List (Nat × List AVal)) (n ns m T k i : Nat) (o : Opn) (L : LSt) (z : LSt × (Int × Int) × (Nat × Nat)) : Prop where
  rt : Rt z.1 n
  nt : z.1.tl.length ≤ i + 1
  nsl : z.1.sl.length = ns
  lat : Later L z.1
  tk : m + 6 + ns ≤ z.2.2.1
  tk2 : z.2.2.1 < z.2.2.2
  tk3 : z.2.2.1 = T ∨ k ≤ z.2.2.1
  kk : k ≤ z.2.2.2
  tr : Tr Tryz.prog Γ 14 k [.ptr m 0 0, .agg (opc o)] (MH m T L) (fun k1 r1 H1 => k1 = z.2.2.2 ∧ r1 = res2 z.2.1.1 z.2.1.2 ∧ H1 = MH m z.2.2.1 z.1)
structure Runs (Γ : List (Nat × List AVal)) (n ns m T k : Nat) (o : Nat → Opn) (L0 : LSt) (Ls : Nat → LSt) (zs : Nat → LSt × (Int × Int) × (Nat × Nat)) : Prop where
  z : Ls 0 = L0
  s : ∀ i, Ls (i + 1) = (zs i).1
  rt : ∀ i, i ≤ 900 → Rt (Ls i) n ∧ (Ls i).tl.length ≤ i ∧ (Ls i).sl.length = ns
  did : ∀ i, i < 900 → Did Γ n ns m T k i (o i) (Ls i) (zs i)
theorem runs_ex (Γ : List (Nat × List AVal)) {L0 : LSt} {n : Nat} (h : Rt L0 n) (h0 : L0.tl = []) (o : Nat → Opn) (ho : ∀ i, OpnOk (o i)) (m T k : Nat) (hm : m + 6 + L0.sl.length ≤ T) (hk : T < k) : ∃ Ls zs, Runs Γ n L0.sl.length m T k o L0 Ls zs := by
  obtain ⟨ns, ens⟩ : ∃ ns, ns = L0.sl.length := ⟨_, rfl⟩
  rw [← ens] at hm ⊢
  have step : ∀ x : Nat × LSt, ∃ z, (x.1 < 900 → Rt x.2 n → x.2.tl.length ≤ x.1 → x.2.sl.length = ns → Did Γ n ns m T k x.1 (o x.1) x.2 z) := by
    rintro ⟨i, L⟩
    by_cases hc : i < 900 ∧ Rt L n ∧ L.tl.length ≤ i ∧ L.sl.length = ns
    · obtain ⟨h1, h2, h3, h4⟩ := hc
      obtain ⟨L', a, e, tk', k', r1, r2, r3, r4, r5, r6, r7, r8⟩ := mdo L n h2 (o i) (by omega) (ho i) m T k (by omega) hk (Γ := Γ)
      exact ⟨(L', (a, e), (tk', k')), fun _ _ _ _ => ⟨r1, by show L'.tl.length ≤ i + 1; omega, by show L'.sl.length = ns; rw [r2.ns, h4], r2, by show m + 6 + ns ≤ tk'; omega, r5, r6, r7, r8⟩⟩
    · exact ⟨(L, (0, 0), (0, 0)), fun h1 h2 h3 h4 => absurd ⟨h1, h2, h3, h4⟩ hc⟩
  obtain ⟨F, hF⟩ := Classical.axiomOfChoice step
  let Ls : Nat → LSt := fun i => Nat.rec L0 (fun i L => (F (i, L)).1) i
  have hs : ∀ i, Ls (i + 1) = (F (i, Ls i)).1 := fun i => rfl
  have hrt : ∀ i, i ≤ 900 → Rt (Ls i) n ∧ (Ls i).tl.length ≤ i ∧ (Ls i).sl.length = ns := fun i => by
    induction i with
    | zero => exact fun _ => ⟨h, by show L0.tl.length ≤ 0; rw [h0]; exact Nat.le_refl _, ens.symm⟩
    | succ i ih =>
      intro hi
      obtain ⟨a1, a2, a3⟩ := ih (by omega)
      have := hF (i, Ls i) (by show i < 900; omega) a1 a2 a3
      rw [hs]
      exact ⟨this.rt, this.nt, this.nsl⟩
  exact ⟨Ls, fun i => F (i, Ls i), ⟨rfl, hs, hrt, fun i hi => by
    obtain ⟨a1, a2, a3⟩ := hrt i (by omega)
    exact hF (i, Ls i) hi a1 a2 a3⟩⟩
theorem Runs.later {n ns m T k : Nat} {o : Nat → Opn} {L0 : LSt} {Ls : Nat → LSt} {zs : Nat → LSt × (Int × Int) × (Nat × Nat)} (h : Runs Γ n ns m T k o L0 Ls zs) : ∀ {i j : Nat}, i ≤ j → j ≤ 900 → Later (Ls i) (Ls j) := fun {i j} hij => by
  induction j with
  | zero => intro _; obtain rfl : i = 0 := by omega
            exact Later.refl _
  | succ j ih =>
    intro hj
    by_cases e : i = j + 1
    · subst e; exact Later.refl _
    · have := (h.did j (by omega)).lat
      rw [← h.s j] at this
      exact (ih (by omega) (by omega)).trans this
end Go.Proofs.T
end
section
namespace Go.Proofs.T
open Go Go.AM Go.Proofs
set_option maxRecDepth 20000
variable {Γ : List (Nat × List AVal)}
def zst7 : List AVal := [.lit (.int .i64 0), .lit (.int .u64 0), .lit (.slice none 0 0), .lit (.slice none 0 0), .lit (.slice none 0 0), .lit (.slice none 0 0), .lit (.slice none 0 0)]
set_option maxHeartbeats 8000000 in
theorem made_tr (x : Nums) (hx : NumsOk x) (f : Nat → Sm) (hf : ∀ i, SmOk (f i)) (nl most q qg n ng : Nat) (hq : q = min nl most) (hq2 : q ≤ 100) (hm2 : most ≤ 1000) (hnl : nl ≤ 9223372036854775807) (hqg : x.g % 6 = (qg : Int)) (hn : 1 + x.c % 4 = (n : Int)) (hng : ng = qg + 1)
    (k : Nat) (Ls : Nat → LSt) (zs : Nat → LSt × (Int × Int) × (Nat × Nat)) (hR : Runs Γ n ng (k + 16) (k + (24 + ng)) (k + (26 + ng)) (fun i => opn (f i)) (newL (cfgS (1 + x.c % 4) x.cr (mkGD x qg).1) n) Ls zs) :
    Tr Tryz.prog Γ 16 k [.agg x.cells, .rd 8 nl (fun i => smc (f i)), .lit (.int .i64 (most : Int))] [] (fun _ r1 _ => r1 = .tup [.agg (Ls q).st.cells, .lit (.bool true)]) := by
  have hmade := lmade x hx (Γ := Γ)
  rw [hqg, Int.toNat_natCast] at hmade
  have hscr := lscript f hf nl most q hq (by omega) hm2 hnl (Γ := Γ)
  obtain ⟨s, es⟩ : ∃ s, s = cfgS (1 + x.c % 4) x.cr (mkGD x qg).1 := ⟨_, rfl⟩
  have hl := (mkGD_len x qg).1
  have hc0 := hx.c0
  have hg0 := hx.g0
  have hsng : s.ng = ng := by rw [es, hng]; exact hl
  have hnew := mnew s n (by rw [es]; exact hn) (by rw [cfg_eq, es]; exact cfg_mk hx (by omega)) (by omega) (by omega) (by omega) (by omega) (k + 2) (Γ := Γ)
  rw [hsng] at hnew
  rw [← es] at hmade hR
  obtain ⟨kx, ekx⟩ : ∃ kx, kx = k + (25 + ng) := ⟨_, rfl⟩
  obtain ⟨T, eT⟩ : ∃ T, T = k + (24 + ng) := ⟨_, rfl⟩
  rw [show k + 2 + (23 + ng) = kx by omega, show k + 2 + (22 + ng) = T by omega, show k + 2 + 14 = k + 16 from rfl] at hnew
  rw [← eT, show k + (26 + ng) = kx + 1 by omega] at hR
  obtain ⟨RV, eRV⟩ : ∃ r, r = AVal.tup [.agg (Ls q).st.cells, .lit (.bool true)] := ⟨_, rfl⟩
  rw [← eRV]
  refine Tr_at Tryz.func16 rfl 46 rfl (Nat.le_of_ble_eq_true rfl) ?_
  simp only [Nums.cells] at hmade
  obtain ⟨NC, eNC⟩ : ∃ NC, NC = x.cells := ⟨_, rfl⟩
  have kp : Kp [0,1,2,3,6,7,8,9,11,12,24,28,29,30,31] (fun i => i - k) := kpI
  have uU := @Nums.cells.eq_1
  refine wlL ?_; refine zq1 ⟨⟨⟨?_⟩⟩⟩
  refine clL [.ret (.agg [.lit (.int .i64 s.cpus), .lit (.int .u64 s.credit), .rd 2 s.ng (gf s)]), .far (.tup [.ptr (k + 16) 0 0, .lit (.int .i64 0)]) kx [(k + 1, ⟨7, true, [zst7]⟩), (k, ⟨13, true, [x.cells]⟩)] [] (MH (k + 16) T (newL s n))] ?_; refine zq5 ⟨⟨⟨?_⟩⟩⟩ ⟨⟨⟨?_⟩⟩⟩ ⟨⟨⟨?_⟩⟩⟩ ⟨⟨⟨?_⟩⟩⟩ ⟨⟨⟨?_⟩⟩⟩
  · exact hmade
  · exact fun q => rfl
  · exact fun q hq => by
      rcases hq with hq | hq
      · simp [keyB, AM.look] at hq
      · have := keyB_MH hq
        simp only [AM.look]
        repeat rw [if_neg (by omega)]
  · exact hnew
  refine wlL ?_; refine zq3 ⟨fun ht => ⟨fun hg => ⟨?_⟩⟩⟩ ⟨fun ht => ⟨fun hg => ⟨?_⟩⟩⟩ ⟨fun ht => ⟨fun hg => ⟨?_⟩⟩⟩
  rotate_left 1
  · decide
  · exact absurd trivial hg
  obtain ⟨F, hF⟩ : ∃ F : Nat → Heap, ∀ i, F i = MH (k + 16) T (Ls i) := ⟨_, fun _ => rfl⟩
  rw [← hR.z, ← hF 0]
  refine clL [.ret (.rd 8 q (fun i => opc (opn (f i))))] ?_; refine zq2 ⟨⟨⟨?_⟩⟩⟩ ⟨⟨⟨?_⟩⟩⟩
  · exact hscr
  refine wlL ?_; refine zq1 ⟨⟨⟨?_⟩⟩⟩
  obtain ⟨NB, eNB⟩ : ∃ B : Blk, B = ⟨13, true, [[.lit (.int .u8 x.c), .lit (.int .u8 x.g), .lit (.int .u32 x.cr), .lit (.int .u8 (x.p 0)), .lit (.int .u8 (x.p 1)), .lit (.int .u8 (x.p 2)), .lit (.int .u8 (x.p 3)), .lit (.int .u8 (x.p 4)), .lit (.int .u16 (x.w 0)), .lit (.int .u16 (x.w 1)), .lit (.int .u16 (x.w 2)), .lit (.int .u16 (x.w 3)), .lit (.int .u16 (x.w 4))]]⟩ := ⟨_, rfl⟩
  refine M_forO (X := Nat) rfl [0,1,2,3,6,7,8,9,11,12,24,28,29,30,31] kx (fun i => [(30, .lit (.int .i64 (i : Int)))]) (fun i => (k + 1, ⟨7, true, [zst7]⟩) :: (k, NB) :: F i) (fun i => i ≤ q) (fun i => q - i) 0 ?_ (Nat.zero_le _) ?_
  · have hl0 := (hR.rt 0 (by omega)).2.2
    rw [eNB, hF 0]
    simp only [MH, LH]
    have uU := @hl0
    refine rRL ?_; apply zN
    exact wkD
  intro i hi
  refine rRL ?_; apply zN
  by_cases hi2 : i < q
  · obtain ⟨hd1, hd2, hd3, hd4, hd5, hd6, hd7, hd8, hd9⟩ := hR.did i (by omega)
    rw [← hR.s i] at hd9
    obtain ⟨hr1, hr2, hr3⟩ := hR.rt i (by omega)
    obtain ⟨hr4, hr5, hr6⟩ := hR.rt (i + 1) (by omega)
    obtain ⟨tk', etk⟩ : ∃ t, t = (zs i).2.2.1 := ⟨_, rfl⟩
    obtain ⟨kk', ekk⟩ : ∃ t, t = (zs i).2.2.2 := ⟨_, rfl⟩
    obtain ⟨ra, era⟩ : ∃ t, t = (zs i).2.1.1 := ⟨_, rfl⟩
    obtain ⟨re, ere⟩ : ∃ t, t = (zs i).2.1.2 := ⟨_, rfl⟩
    rw [← etk] at hd5 hd6 hd7 hd9
    rw [← ekk] at hd6 hd8 hd9
    rw [← era, ← ere] at hd9
    simp only [opc, res2] at hd9
    have hdel : del (F i) kx = F i := by
      rw [hF]
      simp only [MH, LH]
      have uU := @hr3
      exact rRL hdT
    have uU := zA @Nums.cells.eq_1 @hdel
    refine wlL ?_; refine zq1 ⟨fun ht => ⟨⟨?_⟩⟩⟩
    refine clL [.far (res2 ra re) kk' [(kx, ⟨8, true, [opc (opn (f i))]⟩), (k + 1, ⟨7, true, [zst7]⟩), (k, NB)] (MH (k + 16) T (Ls i)) (MH (k + 16) tk' (Ls (i + 1)))] ?_; refine zq4 ⟨⟨⟨?_⟩⟩⟩ ⟨⟨⟨?_⟩⟩⟩ ⟨⟨⟨?_⟩⟩⟩ ⟨⟨⟨?_⟩⟩⟩
    · exact fun q => by rw [hF]
    · exact fun q hq => by
        rcases hq with hq | hq
        · have := keyB_MH hq
          simp only [AM.look]
          repeat rw [if_neg (by omega)]
        · have := keyB_MH hq
          simp only [AM.look]
          repeat rw [if_neg (by omega)]
    · exact hd9
    refine wlL ?_; refine zq1 ⟨⟨⟨?_⟩⟩⟩
    refine ⟨i + 1, by omega, by omega, ?_⟩
    rw [hF]
    subst eNB
    rcases hd7 with h | h
    · rw [h]
      simp only [MH, LH]
      have uU := @hr6
      refine rRL ?_; apply zN
      exact wkD
    · refine Mv.trans (Mv.swap tk' T ⟨by omega, by omega⟩ ⟨by omega, by omega⟩) ?_
      simp only [MH, LH]
      have uU := @hr6
      refine rRL ?_; apply zN
      exact wkD
  · have hil : i = q := by omega
    subst hil
    obtain ⟨hr1, hr2, hr3⟩ := hR.rt i (by omega)
    have hst := mstate (Ls i) n hr1.r0 (k + 16) T kx (by omega) (by omega) (Γ := Γ)
    obtain ⟨SC, eSC⟩ : ∃ c, c = (Ls i).st.cells := ⟨_, rfl⟩
    have hSl : SC.length = 7 := by rw [eSC]; rfl
    rw [← eSC] at hst eRV
    have ht7 : SC.take 7 = SC := by rw [eSC]; rfl
    have hS1 : SC.all AM.one = true := by rw [eSC]; rfl
    have hSc : SC.all clean = true := by rw [eSC]; rfl
    have hz7 : zst7.length = 7 := rfl
    have hz8 : List.drop 7 zst7 = [] := rfl
    have hdel : del (F i) kx = F i := by
      rw [hF]
      simp only [MH, LH]
      have uU := @hr3
      exact rRL hdT
    have hll : decide ((i : Int) < (i : Int)) = false := by simp
    have uU := zA @hll (zA @hSl (zA @ht7 (zA @hS1 (zA @hSc (zA @hz7 (zA @hz8 (zA @hdel @apN)))))))
    refine wlL ?_; refine zq1 ⟨fun ht => ⟨⟨?_⟩⟩⟩
    refine clL [.far (.tup [.agg SC, .lit (.int .i64 0)]) kx [(k + 1, ⟨7, true, [zst7]⟩), (k, NB)] (MH (k + 16) T (Ls i)) (MH (k + 16) T (Ls i))] ?_; refine zq3 ⟨⟨⟨?_⟩⟩⟩ ⟨⟨⟨?_⟩⟩⟩ ⟨⟨⟨?_⟩⟩⟩
    · exact fun q => by rw [hF]
    · exact fun q hq => by
        rcases hq with hq | hq
        · have := keyB_MH hq
          simp only [AM.look]
          repeat rw [if_neg (by omega)]
        · have := keyB_MH hq
          simp only [AM.look]
          repeat rw [if_neg (by omega)]
    refine wlL ?_; refine zq1 ⟨⟨⟨?_⟩⟩⟩
    have uU := zA @hll (zA @hSl (zA @ht7 (zA @hS1 (zA @hSc (zA @hz7 (zA @hz8 (zA @hdel @apN))))))); refine cRD ?_; apply zN
    rw [eRV]
end Go.Proofs.T
end
section
namespace Go.Proofs.T
open Go Go.AM Go.Proofs
set_option maxRecDepth 20000
variable {Γ : List (Nat × List AVal)}
structure Made (Γ : List (Nat × List AVal)) (x : Nums) (f : Nat → Sm) (n ng : Nat) (Ls : Nat → LSt) : Prop where
  n1 : 1 ≤ n
  n4 : n ≤ 4
  g1 : 1 ≤ ng
  g6 : ng ≤ 6
  z : (Ls 0).tl = []
  rt : ∀ i, i ≤ 900 → Rt (Ls i) n ∧ (Ls i).tl.length ≤ i ∧ (Ls i).sl.length = ng
  lat : ∀ i j, i ≤ j → j ≤ 900 → Later (Ls i) (Ls j)
  made : ∀ nl most q, q = min nl most → q ≤ 100 → most ≤ 1000 → nl ≤ 9223372036854775807 → AM.Pure Tryz.prog Γ 16 [.agg x.cells, .rd 8 nl (fun i => smc (f i)), .lit (.int .i64 (most : Int))] (.tup [.agg (Ls q).st.cells, .lit (.bool true)])
theorem lmades (x : Nums) (hx : NumsOk x) (f : Nat → Sm) (hf : ∀ i, SmOk (f i)) : ∃ n ng Ls, Made Γ x f n ng Ls := by
  have hc0 := hx.c0
  have hg0 := hx.g0
  obtain ⟨qg, hqg⟩ : ∃ q : Nat, x.g % 6 = (q : Int) := ⟨(x.g % 6).toNat, by omega⟩
  obtain ⟨n, hn⟩ : ∃ q : Nat, 1 + x.c % 4 = (q : Int) := ⟨(1 + x.c % 4).toNat, by omega⟩
  obtain ⟨ng, hng⟩ : ∃ g, g = qg + 1 := ⟨_, rfl⟩
  have hok := newL_ok hx (q := qg) (by omega) hn
  have hsl : (newL (cfgS (1 + x.c % 4) x.cr (mkGD x qg).1) n).sl.length = ng := by
    rw [hng, ← (mkGD_len x qg).1]
    exact List.length_replicate
  obtain ⟨Ls, zs, hR⟩ := runs_ex Γ hok rfl (fun i => opn (f i)) (fun i => opn_ok (hf i)) 16 (24 + ng) (26 + ng) (by omega) (by omega)
  rw [hsl] at hR
  refine ⟨n, ng, Ls, by omega, by omega, by omega, by omega, ?_, hR.rt, fun i j h1 h2 => hR.later h1 h2, fun nl most q h1 h2 h3 h4 => ?_⟩
  · rw [hR.z]; rfl
  · refine Pure_of0 rfl rfl (Tr.mono (made_tr x hx f hf nl most q qg n ng h1 h2 h3 h4 hqg hn hng 0 Ls zs (by rw [show 0 + 16 = 16 from rfl, show 0 + (24 + ng) = 24 + ng by omega, show 0 + (26 + ng) = 26 + ng by omega]; exact hR)) (fun _ _ _ h => by rw [h]; exact VLe.refl _))
end Go.Proofs.T
end
section
namespace Go.Proofs.T
open Go Go.AM Go.Proofs
set_option maxRecDepth 20000
theorem vle2 {a b c : AVal} (h : VLe a b) : VLes [a, c] [b, c] := .cons h (.cons (VLe.refl _) .nil)
end Go.Proofs.T
end
section
namespace Go.Proofs.T
open Go Go.AM Go.Proofs
set_option maxRecDepth 20000
variable {Γ : List (Nat × List AVal)}
theorem awakeG : AM.Pure Tryz.prog Γ 9 [] (.lit (.bool true)) := Pure_true 300 rfl (by kernel_rfl)
end Go.Proofs.T
end
section
namespace Go.Proofs.T
open Go Go.AM Go.Proofs
set_option maxRecDepth 20000
def ltF (x y : Flt) : Prop := x.r < y.r ∨ (x.r = y.r ∧ (x.a < y.a ∨ (x.a = y.a ∧ x.b < y.b)))
theorem ltF_r {x y : Flt} (h : x.r < y.r) : ltF x y := .inl h
theorem ltF_a {x y : Flt} (h : x.r = y.r) (h1 : x.a < y.a) : ltF x y := .inr ⟨h, .inl h1⟩
theorem ltF_b {x y : Flt} (h : x.r = y.r) (h1 : x.a = y.a) (h2 : x.b < y.b) : ltF x y := .inr ⟨h, .inr ⟨h1, h2⟩⟩
theorem col_strict {f : Nat → List Flt} {n : Nat} {r : Int} {b : Nat → Bool} (h : ∀ i, f i = iff1 (b i) ⟨r, (i : Int), 0⟩) : (flats f n).Pairwise ltF :=
  flats_sorted (fun i _ => by rw [h]; exact iff1_sorted) (fun i j hij _ x hx y hy => by
    rw [h] at hx hy
    obtain ⟨_, rfl⟩ := mem_iff1.1 hx
    obtain ⟨_, rfl⟩ := mem_iff1.1 hy
    exact ltF_a rfl (by simp only; omega))
theorem row_strict {f : Nat → List Flt} {n : Nat} {r a : Int} {b : Nat → Bool} (h : ∀ i, f i = iff1 (b i) ⟨r, a, (i : Int)⟩) : (flats f n).Pairwise ltF :=
  flats_sorted (fun i _ => by rw [h]; exact iff1_sorted) (fun i j hij _ x hx y hy => by
    rw [h] at hx hy
    obtain ⟨_, rfl⟩ := mem_iff1.1 hx
    obtain ⟨_, rfl⟩ := mem_iff1.1 hy
    exact ltF_b rfl rfl (by simp only; omega))
theorem shapes_strict (s : St) : (shapesL s).Pairwise ltF := by
  unfold shapesL
  refine ap_sorted (ap_sorted ite_sorted ite_sorted fun x hx y hy => ?_) ?_ fun x hx y hy => ?_
  · rw [mem_ite hx, mem_ite hy]; exact ltF_a rfl (by simp)
  · split
    · simp
    · refine flats_sorted (fun i _ => by unfold shapeAt; split <;> simp) fun i j hij _ x hx y hy => ?_
      rw [mem_shapeAt hx, mem_shapeAt hy]; exact ltF_b rfl rfl (by simp only; omega)
  · obtain ⟨h1, h2, h3⟩ := shapes_last hy
    rcases List.mem_append.1 hx with hx | hx <;> rw [mem_ite hx] <;> exact ltF_a h1.symm (by simp only; omega)
theorem mem_B {s : St} : ∀ x ∈ flats (brkR s) 7, 4 ≤ x.r ∧ x.r ≤ 10 := fun x hx => by
  obtain ⟨i, hi, hx⟩ := mem_flats.1 hx
  have := mem_br hx; omega
theorem mem_S {s : St} : ∀ x ∈ flats (sptR s) s.ns, x.r = 11 := fun x hx => by
  obtain ⟨i, hi, hx⟩ := mem_flats.1 hx
  exact (mem_sp hx).1
theorem parts_strict (s : St) : (partsL s).Pairwise ltF := by
  unfold partsL
  refine ap_sorted (col_strict fun i => rfl) (ap_sorted ?_ (ap_sorted ?_ (ap_sorted (col_strict fun i => rfl) (col_strict fun i => rfl) fun x hx y hy => ?_) fun x hx y hy => ?_) fun x hx y hy => ?_) fun x hx y hy => ?_
  · refine flats_sorted (fun i _ => col_strict fun i => rfl) fun i j hij _ x hx y hy => ?_
    have := mem_br hx; have := mem_br hy
    exact ltF_r (by omega)
  · refine flats_sorted (fun i _ => ?_) fun i j hij _ x hx y hy => ?_
    · unfold sptR
      split
      · exact List.Pairwise.nil
      · exact row_strict fun i => rfl
    · have := mem_sp hx; have := mem_sp hy
      exact ltF_a (by omega) (by omega)
  · have := mem_rt hx; have := mem_cu hy
    exact ltF_r (by omega)
  · have := mem_S x hx
    rcases List.mem_append.1 hy with hy | hy
    · have := mem_rt hy; exact ltF_r (by omega)
    · have := mem_cu hy; exact ltF_r (by omega)
  · have := mem_B x hx
    rcases List.mem_append.1 hy with hy | hy
    · have := mem_S y hy; exact ltF_r (by omega)
    rcases List.mem_append.1 hy with hy | hy
    · have := mem_rt hy; exact ltF_r (by omega)
    · have := mem_cu hy; exact ltF_r (by omega)
  · have := mem_cl hx
    rcases List.mem_append.1 hy with hy | hy
    · have := mem_B y hy; exact ltF_r (by omega)
    rcases List.mem_append.1 hy with hy | hy
    · have := mem_S y hy; exact ltF_r (by omega)
    rcases List.mem_append.1 hy with hy | hy
    · have := mem_rt hy; exact ltF_r (by omega)
    · have := mem_cu hy; exact ltF_r (by omega)
theorem floors_strict (s : St) : (floorsL s).Pairwise ltF := by
  refine flats_sorted (fun i _ => row_strict fun i => rfl) fun i j hij _ x hx y hy => ?_
  have := mem_fl hx; have := mem_fl hy
  exact ltF_a (by omega) (by omega)
theorem check_strict (s : St) : (checkR s).Pairwise ltF := by
  unfold checkR
  split
  · simp
  · split
    · exact shapes_strict s
    · split
      · exact parts_strict s
      · exact floors_strict s
theorem check_rules (s : St) : ∀ x ∈ checkR s, 1 ≤ x.r ∧ x.r ≤ 14 := fun x hx => by
  unfold checkR at hx
  split at hx
  · simp only [List.mem_singleton] at hx; subst hx; simp
  split at hx
  · unfold shapesL at hx
    rcases List.mem_append.1 hx with hx | hx
    · rcases List.mem_append.1 hx with hx | hx <;> rw [mem_ite hx] <;> simp
    · have := shapes_last hx; omega
  split at hx
  · unfold partsL at hx
    rcases List.mem_append.1 hx with hx | hx
    · have := mem_cl hx; omega
    rcases List.mem_append.1 hx with hx | hx
    · have := mem_B x hx; omega
    rcases List.mem_append.1 hx with hx | hx
    · have := mem_S x hx; omega
    rcases List.mem_append.1 hx with hx | hx
    · have := mem_rt hx; omega
    · have := mem_cu hx; omega
  · obtain ⟨i, hi, hx⟩ := mem_flats.1 hx
    have := mem_fl hx; omega
theorem told_ex {s : St} {b : Nat} (h : PreS s b) (hb : b ≤ 8) : ∃ (m : Nat) (R : Nat → Nat) (A B : Nat → Int), m ≤ 100000 ∧
    (∀ i, i < m → 1 ≤ R i ∧ R i ≤ 14 ∧ 0 ≤ A i ∧ A i ≤ 1000000 ∧ 0 ≤ B i ∧ B i ≤ 1000000) ∧
    (∀ i, i + 1 < m → (R i : Int) < R (i + 1) ∨ ((R i : Int) = R (i + 1) ∧ (A i < A (i + 1) ∨ (A i = A (i + 1) ∧ B i < B (i + 1))))) ∧
    VLe (rows 3 ((chk0 s).map Flt.row)) (.rd 3 m fun i => [.lit (.int .u8 (R i : Int)), .lit (.int .i64 (A i)), .lit (.int .i64 (B i))]) := by
  have hp := toL_pre h
  have hlen := checkR_len (toL s).st (hp.pre hb)
  have hst := check_strict (toL s).st
  have hru := check_rules (toL s).st
  have hok := checkR_ok (toL s).st (hp.small hb)
  unfold chk0
  generalize checkR (toL s).st = l at *
  have hget : ∀ i, i < l.length → l[i]? = some (l.getD i ⟨0, 0, 0⟩) := fun i hi => by simp [List.getD, hi]
  refine ⟨l.length, fun i => (l.getD i ⟨0, 0, 0⟩).r.toNat, fun i => (l.getD i ⟨0, 0, 0⟩).a, fun i => (l.getD i ⟨0, 0, 0⟩).b, hlen, fun i hi => ?_, fun i hi => ?_, ?_⟩
  · have hm := List.mem_of_getElem? (hget i hi)
    have h1 := hru _ hm
    obtain ⟨h2, h3, h4⟩ := hok _ hm
    dsimp only
    omega
  · have hi0 : i < l.length := by omega
    have h1 := List.pairwise_iff_getElem.1 hst i (i + 1) hi0 hi (by omega)
    have e1 : l.getD i ⟨0, 0, 0⟩ = l[i] := by simp [List.getD, hi0]
    have e2 : l.getD (i + 1) ⟨0, 0, 0⟩ = l[i + 1] := by simp [List.getD, hi]
    have h2 := hru _ (List.getElem_mem hi0)
    have h3 := hru _ (List.getElem_mem hi)
    dsimp only
    rw [e1, e2]
    unfold ltF at h1
    omega
  · rw [rows, List.length_map]
    refine VLe.rd fun i hi => ?_
    have h1 := hru _ (List.mem_of_getElem? (hget i hi))
    have e : ((l.map Flt.row).getD i []) = Flt.row (l.getD i ⟨0, 0, 0⟩) := by simp [List.getD, hi]
    rw [e, Flt.row, Int.toNat_of_nonneg (by omega)]
end Go.Proofs.T
end
section
namespace Go.AM
open Go Go.RowKit Go.Proofs Go.Shelf
abbrev str (l : List UInt8) : ByteArray := ⟨l.toArray⟩
def strs (l : List (List UInt8)) : AVal := .rd 1 l.length (fun i => [.lit (.string (str (l.getD i [])))])
def atoiV (l : List UInt8) : Int := match Lib.atoiAll l with
  | .ok v => v
  | .range => Lib.atoiSat l
  | _ => 0
section
variable {P : Program} {ρ : Ren} {Γ : List (Nat × List AVal)}
theorem Pure_Itoa (L : LaysM.n171 P ρ) {g : Nat} (hg : P.globalNamed "internal/strconv.uint64pow10" = some g) (hΓ : look Γ g = some (Lib.pow10Tab.map fun z => .lit (.int .u64 z))) (n : Int)
    (h0 : -9223372036854775808 ≤ n) (h1 : n ≤ 9223372036854775807) : Pure P Γ (ρ.f 171) [.lit (.int .i64 n)] (.lit (.string (str (Lib.itoa n)))) :=
  Pure_calls rfl fun w G args hG hv => by
    rw [Vs_one hv]
    refine (Any.strconv_Itoa L n h0 h1 w ((hG g _ hΓ).tab hg)).mono ?_
    rintro e w' ⟨rfl, k, os, rfl⟩
    refine ⟨_, rfl, ⟨rfl, rfl, rfl, by first | (simp [Sort.grow]; done) | (simp [Sort.grow]; omega), fun i hi => ?_⟩, .lit⟩
    show ((w.drewN k).heap ++ os)[i]? = _
    rw [Array.getElem?_append_left (by show i < w.heap.size; omega)]
    rfl
theorem V_pair {w : World} {G : Nat → Prop} {ρ : Names} {A : Allow} {n : Int} {x : Value} : V w G ρ A (.tup [.lit (.int .i64 n), .junk]) (.tuple #[.int .i64 n, x]) := by
  refine .tup rfl fun j v hj => ?_
  match j with
  | 0 => cases hj; exact .lit
  | 1 => cases hj; exact .junk
  | j + 2 => simp at hj
theorem Pure_Atoi (L : LaysC.n172 P ρ) {te pe te' pe'} (hS : look Γ (ρ.g 15) = some [.lit (.iface te pe)]) (hR : look Γ (ρ.g 16) = some [.lit (.iface te' pe')]) (l : List UInt8) (hl : l.length ≤ 281474976710656) :
    Pure P Γ (ρ.f 172) [.lit (.string (str l))] (.tup [.lit (.int .i64 (atoiV l)), .junk]) :=
  Pure_calls rfl fun w G args hG hv => by
    rw [Vs_one hv]
    have hs : (str l).size ≤ 281474976710656 := by simpa [ByteArray.size] using hl
    have hd : (str l).data.toList = l := by simp
    cases h : Lib.atoiAll l
    · rename_i v
      refine (Any.strconv_Atoi_ok L (str l) (by omega) v (by rw [hd]; exact h) w).mono ?_
      rintro e w' ⟨rfl, hw⟩
      refine ⟨_, rfl, ?_, by rw [atoiV, h]; exact V_pair⟩
      rcases hw with rfl | ⟨t, rfl⟩
      · exact Below.refl _ _
      · exact Lib.bytesWorld_below _ _ _
    · refine (Any.strconv_Atoi_syntax L (str l) hs (by rw [hd]; exact h) (.iface te pe) w ((hG _ _ hS).cell rfl) (.inr ⟨_, _, rfl⟩)).mono ?_
      rintro e w' ⟨N, rfl, _, _, hb⟩
      exact ⟨_, rfl, hb, by rw [atoiV, h]; exact V_pair⟩
    · refine (Any.strconv_Atoi_range L (str l) hs (by rw [hd]; exact h) (.iface te' pe') w ((hG _ _ hR).cell rfl) (.inr ⟨_, _, rfl⟩)).mono ?_
      rintro e w' ⟨N, rfl, _, _, hb⟩
      exact ⟨_, rfl, hb, by rw [atoiV, h, hd]; exact V_pair⟩
theorem Pure_Split (L : Lays.n146 P ρ) (hi9 : (P.info? (ρ.t 9)).map (fun i => (i.zero, i.size, i.bytes)) = some (some (.string ByteArray.empty), 1, 16)) {m : Int} (hM : look Γ (ρ.g 1) = some [.lit (.int .i64 m)]) (l sep : List UInt8)
    (hl : l.length < 4294967281) (h1 : 1 ≤ sep.length) : Pure P Γ (ρ.f 146) [.lit (.string (str l)), .lit (.string (str sep))] (strs (Lib.split l sep)) :=
  Pure_calls rfl fun w G args hG hv => by
    rw [Vs_two hv]
    have hs : (str l).size < 4294967281 := by simpa [ByteArray.size] using hl
    have h1' : 1 ≤ (str sep).size := by simpa [ByteArray.size] using h1
    refine (Any.strings_Split L hi9 (str l) (str sep) m w hs ((hG _ _ hM).cell rfl) h1').mono ?_
    rintro e w' ⟨rfl, rfl⟩
    have hlen := Lib.splitB_all (str sep) h1' 0 _ (str l) rfl
    have hle := Lib.countB_le (str sep) h1' (str l).size (str l) (Nat.le_refl _)
    have hdat := Lib.splitB_data (str sep) 0 (Lib.countB (str l) (str sep)) (str l)
    have hsp : Lib.split l sep = (Lib.splitB (str sep) 0 (Lib.countB (str l) (str sep)) (str l)).map (·.data.toList) := by
      rw [hdat]; simp [Lib.split, Lib.countB]
    refine ⟨_, rfl, (Below.refl _ _).alloc (Nat.le_refl _) _, ?_⟩
    unfold strs
    rw [hsp]
    generalize hq : Lib.splitB (str sep) 0 (Lib.countB (str l) (str sep)) (str l) = q at *
    rw [← hlen, List.length_map]
    refine .rd (fun i _ => .string (q.getD i default)) (.inr ⟨Nat.le_refl _, by simp⟩) (Nat.le_refl _) (by unfold maxLen; omega) (fun i hi => rfl) (fun i j v hi hj => ?_) (fun i j v hi hj => ?_)
    · match j with
      | 0 =>
        have hi' : i < q.length := hi
        have e : 0 + i * 1 + 0 = i := by omega
        rw [e, World.cell?_alloc_at _ _ _ _ rfl, List.getElem?_toArray, List.getElem?_map, List.getElem?_eq_getElem hi']
        simp [List.getD, hi']
      | j + 1 => simp at hj
    · match j with
      | 0 =>
        simp only [List.getElem?_cons_zero, Option.some.injEq] at hj
        subst hj
        have e : str (List.getD (q.map (·.data.toList)) i []) = q.getD i default := by simp [List.getD, hi]
        rw [e]; exact .lit
      | j + 1 => simp at hj
end
end Go.AM
end
section
namespace Go.Proofs.T
open Go Go.Lib
def dig (c : UInt8) : Bool := decide (48 ≤ c.toNat) && decide (c.toNat ≤ 57)
theorem dig_iff {c : UInt8} : dig c = true ↔ 48 ≤ c.toNat ∧ c.toNat ≤ 57 := by simp [dig]
def valF (a : Nat) (l : List UInt8) : Nat := l.foldl (fun a c => a * 10 + (c.toNat - 48)) a
theorem valF_nil (a : Nat) : valF a [] = a := rfl
theorem valF_cons (a : Nat) (c : UInt8) (r : List UInt8) : valF a (c :: r) = valF (a * 10 + (c.toNat - 48)) r := List.foldl_cons ..
theorem valF_append (l m : List UInt8) (a : Nat) : valF a (l ++ m) = valF (valF a l) m := List.foldl_append ..
theorem valF_ge : ∀ (l : List UInt8) (a : Nat), a ≤ valF a l
  | [], _ => Nat.le_refl _
  | c :: l, a => by rw [valF_cons]; exact Nat.le_trans (by omega) (valF_ge l (a * 10 + (c.toNat - 48)))
theorem ofNat_dig {d : Nat} (h : d < 10) : (UInt8.ofNat (48 + d)).toNat = 48 + d := by
  have : (48 + d) < 256 := by omega
  simp [UInt8.toNat_ofNat']; omega
theorem dec_lt10 {n : Nat} (h : n < 10) : decDigits n = [UInt8.ofNat (48 + n)] := by rw [decDigits, dif_pos h]
theorem dec_big {n : Nat} (h : ¬ n < 10) : decDigits n = decDigits (n / 10) ++ [UInt8.ofNat (48 + n % 10)] := by rw [decDigits, dif_neg h]
theorem dec_val (n : Nat) : valF 0 (decDigits n) = n := by
  induction n using Nat.strongRecOn with
  | _ n ih =>
    by_cases h : n < 10
    · rw [dec_lt10 h]
      rw [valF_cons, valF_nil]
      have := ofNat_dig h
      omega
    · rw [dec_big h, valF_append, ih (n / 10) (by omega)]
      rw [valF_cons, valF_nil]
      have := ofNat_dig (d := n % 10) (by omega)
      omega
theorem dec_dig (n : Nat) : ∀ c ∈ decDigits n, dig c = true := by
  induction n using Nat.strongRecOn with
  | _ n ih =>
    intro c hc
    by_cases h : n < 10
    · rw [dec_lt10 h] at hc; simp only [List.mem_singleton] at hc; subst hc; rw [dig_iff, ofNat_dig h]; omega
    · rw [dec_big h] at hc
      rcases List.mem_append.1 hc with hc | hc
      · exact ih (n / 10) (by omega) c hc
      · simp only [List.mem_singleton] at hc; subst hc; rw [dig_iff, ofNat_dig (by omega)]; omega
theorem dec_ne (n : Nat) : decDigits n ≠ [] := by
  by_cases h : n < 10
  · rw [dec_lt10 h]; simp
  · rw [dec_big h]; simp
theorem dec_no32 (n : Nat) : (32 : UInt8) ∉ decDigits n := fun h => by have := dig_iff.1 (dec_dig n 32 h); simp at this
theorem parse_cons (c : UInt8) (l : List UInt8) (a : Nat) (hc : 48 ≤ c.toNat ∧ c.toNat ≤ 57) (h : a * 10 + (c.toNat - 48) < 18446744073709551616) : parseUint10 a (c :: l) = parseUint10 (a * 10 + (c.toNat - 48)) l := by
  have h1 : ¬ 1844674407370955162 ≤ a := by omega
  have h2 : ¬ 18446744073709551616 ≤ a * 10 + (c.toNat - 48) := by omega
  rw [parseUint10, if_pos hc, if_neg h1, if_neg h2]
theorem parse_dig (l : List UInt8) : ∀ (a : Nat), (∀ c ∈ l, dig c = true) → valF a l < 18446744073709551616 → parseUint10 a l = .ok (valF a l) := by
  induction l with
  | nil => intro a _ _; rfl
  | cons c l ih =>
    intro a hd hv
    have hc := dig_iff.1 (hd c (List.mem_cons_self ..))
    have hge := valF_ge l (a * 10 + (c.toNat - 48))
    rw [valF_cons] at hv ⊢
    rw [parse_cons c l a hc (Nat.lt_of_le_of_lt hge hv)]
    exact ih _ (fun c hc => hd c (List.mem_cons_of_mem _ hc)) hv
theorem atoi_dec (n : Nat) (h : n ≤ 9223372036854775807) : atoiAll (decDigits n) = .ok (n : Int) := by
  obtain ⟨c, r, e⟩ := List.exists_cons_of_ne_nil (dec_ne n)
  have hc := dig_iff.1 (dec_dig n c (by rw [e]; simp))
  have hp : parseMag (decDigits n) = .ok n := by
    unfold parseMag
    rw [if_neg (dec_ne n), parse_dig _ _ (dec_dig n) (by rw [dec_val]; omega), dec_val]
  rw [e] at hp ⊢
  unfold atoiAll
  simp only []
  rw [if_neg (by omega), hp]
  simp only []
  rw [if_neg (by omega), if_neg (by omega), if_neg (by omega)]
theorem atoi_neg (n : Nat) (h1 : 1 ≤ n) (h : n ≤ 9223372036854775808) : atoiAll (45 :: decDigits n) = .ok (-(n : Int)) := by
  have hp : parseMag (decDigits n) = .ok n := by
    unfold parseMag
    rw [if_neg (dec_ne n), parse_dig _ _ (dec_dig n) (by rw [dec_val]; omega), dec_val]
  unfold atoiAll
  simp only []
  rw [if_pos (by decide), hp]
  simp only []
  rw [if_neg (fun h => h.1 (by decide)), if_neg (by omega), if_pos (by decide)]
theorem atoi_itoa (n : Int) (h0 : -9223372036854775808 ≤ n) (h1 : n ≤ 9223372036854775807) : atoiAll (itoa n) = .ok n := by
  unfold itoa
  split
  · rw [atoi_neg n.natAbs (by omega) (by omega)]; congr 1; omega
  · rw [atoi_dec n.toNat (by omega)]; congr 1; omega
theorem itoa_no32 (n : Int) : (32 : UInt8) ∉ itoa n := by
  unfold itoa
  split
  · simp [dec_no32]
  · exact dec_no32 _
theorem index_hit : ∀ (a s : List UInt8), (32 : UInt8) ∉ a → index (a ++ 32 :: s) [32] = (a.length : Int)
  | [], s, _ => by simp [index]
  | c :: a, s, h => by
    have hc : c ≠ 32 := fun e => h (by simp [e])
    have ih := index_hit a s (fun e => h (by simp [e]))
    simp only [List.cons_append, index]
    rw [if_neg (by simp [Ne.symm hc]), ih, if_neg (by simp)]
    simp
theorem index_miss : ∀ (a : List UInt8), (32 : UInt8) ∉ a → index a [32] = -1
  | [], _ => by simp [index]
  | c :: a, h => by
    have hc : c ≠ 32 := fun e => h (by simp [e])
    have ih := index_miss a (fun e => h (by simp [e]))
    simp only [index]
    rw [if_neg (by simp [Ne.symm hc]), ih, if_pos (by simp)]
theorem split_one {a : List UInt8} (h : (32 : UInt8) ∉ a) : split a [32] = [a] := by
  unfold split; rw [count_miss (index_miss a h)]; rfl
theorem split_cons {a s : List UInt8} (h : (32 : UInt8) ∉ a) : split (a ++ 32 :: s) [32] = a :: split s [32] := by
  have hi := index_hit a s h
  have hd : (a ++ 32 :: s).drop (a.length + [(32 : UInt8)].length) = s := by
    rw [← List.drop_drop, List.drop_left]; rfl
  unfold split
  rw [count_hit (by simp) hi, hd, Nat.add_comm, splitK, hi, if_neg (by simp)]
  simp only [Int.toNat_natCast, Nat.add_zero, List.take_left]
  rw [hd]
end Go.Proofs.T
end
section
namespace Go.AM
open Go Go.Lib
section
variable {P : Program} {k : Nat}
theorem s_toList (l : List UInt8) : (ByteArray.mk l.toArray).toList = l := ByteArray.toList_mk l
theorem s_app (a b : List UInt8) : ByteArray.mk a.toArray ++ ByteArray.mk b.toArray = ByteArray.mk (a ++ b).toArray := by
  apply ByteArray.ext; simp
theorem e_mif {c : Prop} [Decidable c] {v : Value} : Option.getD.match_1 (fun _ => Option AVal) (if c then none else some v) (fun x => some (AVal.lit x)) (fun _ => none) = if ¬ c then some (AVal.lit v) else none := by
  by_cases h : c
  · rw [if_pos h, if_neg (fun e => e h)]
  · rw [if_neg h, if_pos h]
theorem e_mvi {c : Prop} [Decidable c] {v : AVal} : moveO k (if c then some v else none) = if c then some (qOut k v) else none := by
  by_cases h : c
  · rw [if_pos h, if_pos h]; rfl
  · rw [if_neg h, if_neg h]; rfl
end
attribute [go_sem] s_toList s_app e_mif e_mvi List.size_toArray List.take_length List.drop_zero
theorem dec_len : ∀ (k n : Nat), n < 10 ^ (k + 1) → (decDigits n).length ≤ k + 1
  | 0, n, h => by rw [Proofs.T.dec_lt10 (by simpa using h)]; simp
  | k + 1, n, h => by
    by_cases h1 : n < 10
    · rw [Proofs.T.dec_lt10 h1]; simp
    · rw [Proofs.T.dec_big h1]
      have := dec_len k (n / 10) (by rw [Nat.pow_succ] at h; omega)
      simp only [List.length_append, List.length_cons, List.length_nil]; omega
theorem itoa_len (n : Int) (h0 : -9223372036854775808 ≤ n) (h1 : n ≤ 9223372036854775807) : (itoa n).length ≤ 20 := by
  unfold itoa
  split
  · have := dec_len 18 n.natAbs (by omega); simp only [List.length_cons]; omega
  · have := dec_len 18 n.toNat (by omega); omega
end Go.AM
end
section
namespace Go.Proofs.T
open Go Go.Lib Go.AM
def nmL : List (List UInt8) := [[], [99, 111, 110, 102, 105, 103], [115, 104, 97, 112, 101], [99, 108, 111, 99, 107], [111, 114, 100, 101, 114], [105, 100], [103, 114, 111, 117, 112], [99, 112, 117], [109, 97, 115, 107], [112, 108, 97, 99, 101], [116, 97, 115, 107], [115, 112, 111, 116], [114, 111, 111, 116], [99, 117, 114, 114, 101, 110, 116], [102, 108, 111, 111, 114], [98, 97, 99, 107], [102, 101, 108, 108], [111, 116, 104, 101, 114]]
def nm (r : Nat) : List UInt8 := nmL.getD r []
theorem nm_big {r : Nat} (h : 18 ≤ r) : nm r = [] := by unfold nm; rw [List.getD, List.getElem?_eq_none (by simpa [nmL] using h)]; rfl
theorem nm_facts : ((List.range 18).all fun r => (!(nm r).contains 32) && (decide (nm r = []) == decide (r = 0)) && ((List.range 18).all fun q => !(decide (nm r = nm q)) || decide (r = q))) = true := by decide +kernel
theorem nm_no32 (r : Nat) : (32 : UInt8) ∉ nm r := by
  by_cases h : r < 18
  · have := List.all_eq_true.1 nm_facts r (List.mem_range.2 h)
    simp only [Bool.and_eq_true, Bool.not_eq_true', List.contains_eq_mem, decide_eq_false_iff_not] at this
    exact this.1.1
  · rw [nm_big (by omega)]; simp
theorem nm_nil {r : Nat} : nm r = [] ↔ (r = 0 ∨ 18 ≤ r) := by
  by_cases h : r < 18
  · have := List.all_eq_true.1 nm_facts r (List.mem_range.2 h)
    simp only [Bool.and_eq_true, beq_iff_eq, decide_eq_decide] at this
    rw [this.1.2]; omega
  · rw [nm_big (by omega)]; simp; omega
theorem nm_inj {r q : Nat} (hr : r < 18) (hq : q < 18) (h : nm r = nm q) : r = q := by
  have := List.all_eq_true.1 nm_facts r (List.mem_range.2 hr)
  simp only [Bool.and_eq_true] at this
  have := List.all_eq_true.1 this.2 q (List.mem_range.2 hq)
  simpa [h] using this
def txt (r : Nat) (a b : Int) : List UInt8 := nm r ++ 32 :: (itoa a ++ 32 :: itoa b)
def ruleGo (w : List UInt8) : Nat → Nat
  | 0 => 0
  | i + 1 => if nm i = w then i else ruleGo w i
theorem ruleGo_nm {r : Nat} (h : r < 18) : ∀ i, r < i → i ≤ 18 → ruleGo (nm r) i = r
  | 0, h1, _ => by omega
  | i + 1, h1, h2 => by
    rw [ruleGo]
    split
    · rename_i e; exact nm_inj (by omega) h e
    · rename_i e
      by_cases hi : r = i
      · subst hi; exact absurd rfl e
      · exact ruleGo_nm h i (by omega) (by omega)
theorem ruleGo_lt (w : List UInt8) : ∀ i, ruleGo w i ≤ i
  | 0 => Nat.le_refl _
  | i + 1 => by rw [ruleGo]; split; · omega
                · have := ruleGo_lt w i; omega
def textOk (r : Nat) (a b : Int) : Bool := decide (nm r ≠ []) && decide (0 ≤ a) && decide (0 ≤ b)
abbrev RdV := (Nat × Int × Int) × Int
def rdErr : RdV := ((0, 0, 0), 321)
def readP (s : List UInt8) : RdV :=
  if (split s [32]).length = 3 then
    (if textOk (ruleGo ((split s [32]).getD 0 []) 18) (atoiV ((split s [32]).getD 1 [])) (atoiV ((split s [32]).getD 2 [])) = true ∧
        txt (ruleGo ((split s [32]).getD 0 []) 18) (atoiV ((split s [32]).getD 1 [])) (atoiV ((split s [32]).getD 2 [])) = s then
      ((ruleGo ((split s [32]).getD 0 []) 18, atoiV ((split s [32]).getD 1 []), atoiV ((split s [32]).getD 2 [])), 0) else rdErr)
  else rdErr
structure Is (s : List UInt8) (r : Nat) (a b : Int) : Prop where
  r1 : 1 ≤ r
  r2 : r ≤ 17
  a0 : 0 ≤ a
  a1 : a ≤ 9223372036854775807
  b0 : 0 ≤ b
  b1 : b ≤ 9223372036854775807
  eq : s = txt r a b
theorem atoiV_bounds (l : List UInt8) : -9223372036854775808 ≤ atoiV l ∧ atoiV l ≤ 9223372036854775807 := by
  unfold atoiV
  cases h : atoiAll l
  · rename_i v
    simp only []
    unfold atoiAll at h
    split at h
    · cases h
    · rename_i c r
      simp only [] at h
      split at h
      · cases h
      · cases h
      · rename_i u hu
        split at h
        · cases h
        · split at h
          · cases h
          · injection h with h
            split at h <;> omega
  · simp
  · simp only [atoiSat]; split <;> omega
theorem readP_is {s : List UInt8} {r : Nat} {a b : Int} (h : Is s r a b) : readP s = ((r, a, b), 0) := by
  obtain ⟨h1, h2, h3, h4, h5, h6, rfl⟩ := h
  have hsp : split (txt r a b) [32] = [nm r, itoa a, itoa b] := by
    unfold txt; rw [split_cons (nm_no32 r), split_cons (itoa_no32 a), split_one (itoa_no32 b)]
  have ha : atoiV (itoa a) = a := by unfold atoiV; rw [atoi_itoa a (by omega) (by omega)]
  have hb : atoiV (itoa b) = b := by unfold atoiV; rw [atoi_itoa b (by omega) (by omega)]
  unfold readP
  rw [hsp, if_pos (by rfl)]
  simp only [List.getD_cons_zero, List.getD_cons_succ]
  rw [ruleGo_nm (by omega) 18 (by omega) (by omega), ha, hb]
  have hok : textOk r a b = true := by
    simp only [textOk, Bool.and_eq_true, decide_eq_true_eq, ne_eq]
    exact ⟨⟨fun e => by rw [nm_nil] at e; omega, h3⟩, h5⟩
  rw [if_pos ⟨hok, rfl⟩]
theorem readP_cases (s : List UInt8) : (∃ r a b, Is s r a b ∧ readP s = ((r, a, b), 0)) ∨ readP s = rdErr := by
  unfold readP
  split
  · generalize hr : ruleGo ((split s [32]).getD 0 []) 18 = r
    split
    · rename_i h
      refine .inl ⟨_, _, _, ?_, rfl⟩
      obtain ⟨h1, h2⟩ := h
      simp only [textOk, Bool.and_eq_true, decide_eq_true_eq, ne_eq] at h1
      have hn := h1.1.1
      rw [nm_nil] at hn
      exact ⟨by omega, by omega, h1.1.2, (atoiV_bounds _).2, h1.2, (atoiV_bounds _).2, h2.symm⟩
    · exact .inr rfl
  · exact .inr rfl
end Go.Proofs.T
end
section
namespace Go.Proofs
open Go.Shelf
def Tryz.layItoa_ren : Go.Shelf.Ren := ⟨fun | 171 => 56 | 243 => 100 | 246 => 119 | 283 => 143 | 284 => 144 | 285 => 145 | 286 => 146 | 129 => 141 | 317 => 161 | 318 => 162 | 319 => 163 | 320 => 164 | 337 => 174 | 338 => 175 | n => n, fun | 3 => 3 | 9 => 9 | 2 => 2 | 4 => 4 | 171 => 195 | 0 => 0 | 53 => 36 | 37 => 178 | 5 => 5 | 173 => 197 | 212 => 219 | 51 => 22 | 20 => 20 | 213 => 220 | 46 => 164 | 232 => 236 | 233 => 237 | n => n, fun | 17 => 2 | 18 => 6 | 19 => 7 | n => n⟩
theorem Tryz.layItoa : Go.Proofs.LaysM.n171 Tryz.prog Tryz.layItoa_ren := {
  mixed := by kernel_rfl
  f129 := Tryz.func141.trans (congrArg some (by kernel_rfl))
  f171 := Tryz.func56.trans (congrArg some (by kernel_rfl))
  f243 := Tryz.func100.trans (congrArg some (by kernel_rfl))
  f246 := Tryz.func119.trans (congrArg some (by kernel_rfl))
  f283 := Tryz.func143.trans (congrArg some (by kernel_rfl))
  f284 := Tryz.func144.trans (congrArg some (by kernel_rfl))
  f285 := Tryz.func145.trans (congrArg some (by kernel_rfl))
  f286 := Tryz.func146.trans (congrArg some (by kernel_rfl))
  f317 := Tryz.func161.trans (congrArg some (by kernel_rfl))
  f318 := Tryz.func162.trans (congrArg some (by kernel_rfl))
  f319 := Tryz.func163.trans (congrArg some (by kernel_rfl))
  f320 := Tryz.func164.trans (congrArg some (by kernel_rfl))
  f337 := Tryz.func174.trans (congrArg some (by kernel_rfl))
  f338 := Tryz.func175.trans (congrArg some (by kernel_rfl))
  t0 := Tryz.underlying0
  a0 := Tryz.isAgg0
  z0 := Tryz.sizeOf0
  v0 := Tryz.zeroValue0
  t2 := Tryz.underlying2
  a2 := Tryz.isAgg2
  z2 := Tryz.sizeOf2
  v2 := Tryz.zeroValue2
  t3 := Tryz.underlying3
  a3 := Tryz.isAgg3
  z3 := Tryz.sizeOf3
  v3 := Tryz.zeroValue3
  t4 := Tryz.underlying4
  a4 := Tryz.isAgg4
  z4 := Tryz.sizeOf4
  v4 := Tryz.zeroValue4
  t5 := Tryz.underlying5
  a5 := Tryz.isAgg5
  z5 := Tryz.sizeOf5
  v5 := Tryz.zeroValue5
  t9 := Tryz.underlying9
  a9 := Tryz.isAgg9
  z9 := Tryz.sizeOf9
  v9 := Tryz.zeroValue9
  t20 := Tryz.underlying20
  a20 := Tryz.isAgg20
  z20 := Tryz.sizeOf20
  v20 := Tryz.zeroValue20
  t37 := Tryz.underlying178
  a37 := Tryz.isAgg178
  z37 := Tryz.sizeOf178
  v37 := Tryz.zeroValue178
  t46 := Tryz.underlying164
  a46 := Tryz.isAgg164
  z46 := Tryz.sizeOf164
  v46 := Tryz.zeroValue164
  t51 := Tryz.underlying22
  a51 := Tryz.isAgg22
  z51 := Tryz.sizeOf22
  v51 := Tryz.zeroValue22
  t53 := Tryz.underlying36
  a53 := Tryz.isAgg36
  z53 := Tryz.sizeOf36
  v53 := Tryz.zeroValue36
  t171 := Tryz.underlying195
  a171 := Tryz.isAgg195
  z171 := Tryz.sizeOf195
  v171 := Tryz.zeroValue195
  t173 := Tryz.underlying197
  a173 := Tryz.isAgg197
  z173 := Tryz.sizeOf197
  v173 := Tryz.zeroValue197
  t212 := Tryz.underlying219
  a212 := Tryz.isAgg219
  z212 := Tryz.sizeOf219
  v212 := Tryz.zeroValue219
  t213 := Tryz.underlying220
  a213 := Tryz.isAgg220
  z213 := Tryz.sizeOf220
  t232 := Tryz.underlying236
  a232 := Tryz.isAgg236
  z232 := Tryz.sizeOf236
  v232 := Tryz.zeroValue236
  t233 := Tryz.underlying237
  a233 := Tryz.isAgg237
  z233 := Tryz.sizeOf237
  v233 := Tryz.zeroValue237
  g17 := by kernel_rfl
  g18 := by kernel_rfl
  g19 := by kernel_rfl
  i0 := by kernel_rfl
  i2 := by kernel_rfl
  i3 := by kernel_rfl
  i4 := by kernel_rfl
  i5 := by kernel_rfl
  i9 := by kernel_rfl
  i20 := by kernel_rfl
  i37 := by kernel_rfl
  i46 := by kernel_rfl
  i51 := by kernel_rfl
  i53 := by kernel_rfl
  i171 := by kernel_rfl
  i173 := by kernel_rfl
  i212 := by kernel_rfl
  i232 := by kernel_rfl
  i233 := by kernel_rfl
  m17 := by kernel_rfl
  m18 := by kernel_rfl
  m19 := by kernel_rfl }
def Tryz.layAtoi_ren : Go.Shelf.Ren := ⟨fun | 172 => 58 | 244 => 102 | 245 => 103 | 247 => 123 | 279 => 124 | 280 => 125 | 281 => 126 | 282 => 127 | 287 => 151 | 316 => 152 | 171 => 56 | 205 => 153 | 321 => 170 | 322 => 171 | 243 => 100 | 246 => 119 | 283 => 143 | 284 => 144 | 285 => 145 | 286 => 146 | 129 => 141 | 317 => 161 | 318 => 162 | 319 => 163 | 320 => 164 | 337 => 174 | 338 => 175 | n => n, fun | 9 => 9 | 3 => 3 | 75 => 115 | 76 => 116 | 4 => 4 | 5 => 5 | 167 => 177 | 37 => 178 | 0 => 0 | 85 => 179 | 2 => 2 | 168 => 181 | 53 => 36 | 175 => 203 | 46 => 164 | 210 => 207 | 127 => 223 | 145 => 226 | 143 => 224 | 21 => 21 | 171 => 195 | 173 => 197 | 212 => 219 | 51 => 22 | 20 => 20 | 213 => 220 | 232 => 236 | 233 => 237 | 80 => 238 | n => n, fun | 15 => 0 | 16 => 1 | 17 => 2 | 18 => 6 | 19 => 7 | n => n⟩
theorem Tryz.layAtoi : Go.Proofs.LaysC.n172 Tryz.prog Tryz.layAtoi_ren := {
  mixed := by kernel_rfl
  f129 := Tryz.func141.trans (congrArg some (by kernel_rfl))
  f171 := Tryz.func56.trans (congrArg some (by kernel_rfl))
  f172 := Tryz.func58.trans (congrArg some (by kernel_rfl))
  f205 := Tryz.func153.trans (congrArg some (by kernel_rfl))
  f243 := Tryz.func100.trans (congrArg some (by kernel_rfl))
  f244 := Tryz.func102.trans (congrArg some (by kernel_rfl))
  f245 := Tryz.func103.trans (congrArg some (by kernel_rfl))
  f246 := Tryz.func119.trans (congrArg some (by kernel_rfl))
  f247 := Tryz.func123.trans (congrArg some (by kernel_rfl))
  f279 := Tryz.func124.trans (congrArg some (by kernel_rfl))
  f280 := Tryz.func125.trans (congrArg some (by kernel_rfl))
  f281 := Tryz.func126.trans (congrArg some (by kernel_rfl))
  f282 := Tryz.func127.trans (congrArg some (by kernel_rfl))
  f283 := Tryz.func143.trans (congrArg some (by kernel_rfl))
  f284 := Tryz.func144.trans (congrArg some (by kernel_rfl))
  f285 := Tryz.func145.trans (congrArg some (by kernel_rfl))
  f286 := Tryz.func146.trans (congrArg some (by kernel_rfl))
  f287 := Tryz.func151.trans (congrArg some (by kernel_rfl))
  f316 := Tryz.func152.trans (congrArg some (by kernel_rfl))
  f317 := Tryz.func161.trans (congrArg some (by kernel_rfl))
  f318 := Tryz.func162.trans (congrArg some (by kernel_rfl))
  f319 := Tryz.func163.trans (congrArg some (by kernel_rfl))
  f320 := Tryz.func164.trans (congrArg some (by kernel_rfl))
  f321 := Tryz.func170.trans (congrArg some (by kernel_rfl))
  f322 := Tryz.func171.trans (congrArg some (by kernel_rfl))
  f337 := Tryz.func174.trans (congrArg some (by kernel_rfl))
  f338 := Tryz.func175.trans (congrArg some (by kernel_rfl))
  t0 := Tryz.underlying0
  a0 := Tryz.isAgg0
  z0 := Tryz.sizeOf0
  v0 := Tryz.zeroValue0
  t2 := Tryz.underlying2
  a2 := Tryz.isAgg2
  z2 := Tryz.sizeOf2
  v2 := Tryz.zeroValue2
  t3 := Tryz.underlying3
  a3 := Tryz.isAgg3
  z3 := Tryz.sizeOf3
  v3 := Tryz.zeroValue3
  t4 := Tryz.underlying4
  a4 := Tryz.isAgg4
  z4 := Tryz.sizeOf4
  v4 := Tryz.zeroValue4
  t5 := Tryz.underlying5
  a5 := Tryz.isAgg5
  z5 := Tryz.sizeOf5
  v5 := Tryz.zeroValue5
  t9 := Tryz.underlying9
  a9 := Tryz.isAgg9
  z9 := Tryz.sizeOf9
  v9 := Tryz.zeroValue9
  t20 := Tryz.underlying20
  a20 := Tryz.isAgg20
  z20 := Tryz.sizeOf20
  v20 := Tryz.zeroValue20
  t21 := Tryz.underlying21
  a21 := Tryz.isAgg21
  z21 := Tryz.sizeOf21
  v21 := Tryz.zeroValue21
  t37 := Tryz.underlying178
  a37 := Tryz.isAgg178
  z37 := Tryz.sizeOf178
  v37 := Tryz.zeroValue178
  t46 := Tryz.underlying164
  a46 := Tryz.isAgg164
  z46 := Tryz.sizeOf164
  v46 := Tryz.zeroValue164
  t51 := Tryz.underlying22
  a51 := Tryz.isAgg22
  z51 := Tryz.sizeOf22
  v51 := Tryz.zeroValue22
  t53 := Tryz.underlying36
  a53 := Tryz.isAgg36
  z53 := Tryz.sizeOf36
  v53 := Tryz.zeroValue36
  t75 := Tryz.underlying115
  a75 := Tryz.isAgg115
  z75 := Tryz.sizeOf115
  v75 := Tryz.zeroValue115
  t76 := Tryz.underlying116
  a76 := Tryz.isAgg116
  z76 := Tryz.sizeOf116
  v76 := Tryz.zeroValue116
  t85 := Tryz.underlying179
  a85 := Tryz.isAgg179
  z85 := Tryz.sizeOf179
  v85 := Tryz.zeroValue179
  t127 := Tryz.underlying223
  a127 := Tryz.isAgg223
  z127 := Tryz.sizeOf223
  v127 := Tryz.zeroValue223
  t143 := Tryz.underlying224
  a143 := Tryz.isAgg224
  z143 := Tryz.sizeOf224
  v143 := Tryz.zeroValue224
  t145 := Tryz.underlying226
  a145 := Tryz.isAgg226
  z145 := Tryz.sizeOf226
  v145 := Tryz.zeroValue226
  t167 := Tryz.underlying177
  a167 := Tryz.isAgg177
  z167 := Tryz.sizeOf177
  v167 := Tryz.zeroValue177
  t168 := Tryz.underlying181
  a168 := Tryz.isAgg181
  z168 := Tryz.sizeOf181
  v168 := Tryz.zeroValue181
  t171 := Tryz.underlying195
  a171 := Tryz.isAgg195
  z171 := Tryz.sizeOf195
  v171 := Tryz.zeroValue195
  t173 := Tryz.underlying197
  a173 := Tryz.isAgg197
  z173 := Tryz.sizeOf197
  v173 := Tryz.zeroValue197
  t175 := Tryz.underlying203
  a175 := Tryz.isAgg203
  z175 := Tryz.sizeOf203
  v175 := Tryz.zeroValue203
  t210 := Tryz.underlying207
  a210 := Tryz.isAgg207
  z210 := Tryz.sizeOf207
  v210 := Tryz.zeroValue207
  t212 := Tryz.underlying219
  a212 := Tryz.isAgg219
  z212 := Tryz.sizeOf219
  v212 := Tryz.zeroValue219
  t213 := Tryz.underlying220
  a213 := Tryz.isAgg220
  z213 := Tryz.sizeOf220
  t232 := Tryz.underlying236
  a232 := Tryz.isAgg236
  z232 := Tryz.sizeOf236
  v232 := Tryz.zeroValue236
  t233 := Tryz.underlying237
  a233 := Tryz.isAgg237
  z233 := Tryz.sizeOf237
  v233 := Tryz.zeroValue237
  g15 := by kernel_rfl
  g16 := by kernel_rfl
  g17 := by kernel_rfl
  g18 := by kernel_rfl
  g19 := by kernel_rfl
  t80 := Tryz.underlying238
  a80 := Tryz.isAgg238
  z80 := Tryz.sizeOf238
  v80 := Tryz.zeroValue238
  i0 := by kernel_rfl
  i2 := by kernel_rfl
  i3 := by kernel_rfl
  i4 := by kernel_rfl
  i5 := by kernel_rfl
  i9 := by kernel_rfl
  i20 := by kernel_rfl
  i21 := by kernel_rfl
  i37 := by kernel_rfl
  i46 := by kernel_rfl
  i51 := by kernel_rfl
  i53 := by kernel_rfl
  i75 := by kernel_rfl
  i76 := by kernel_rfl
  i80 := by kernel_rfl
  i85 := by kernel_rfl
  i127 := by kernel_rfl
  i143 := by kernel_rfl
  i145 := by kernel_rfl
  i167 := by kernel_rfl
  i168 := by kernel_rfl
  i171 := by kernel_rfl
  i173 := by kernel_rfl
  i175 := by kernel_rfl
  i210 := by kernel_rfl
  i212 := by kernel_rfl
  i232 := by kernel_rfl
  i233 := by kernel_rfl
  m15 := by kernel_rfl
  m16 := by kernel_rfl
  m17 := by kernel_rfl
  m18 := by kernel_rfl
  m19 := by kernel_rfl
  c0 := by kernel_rfl
  c2 := by kernel_rfl
  c3 := by kernel_rfl
  c4 := by kernel_rfl
  c5 := by kernel_rfl
  c9 := by kernel_rfl
  c20 := by kernel_rfl
  c21 := by kernel_rfl
  c37 := by kernel_rfl
  c46 := by kernel_rfl
  c51 := by kernel_rfl
  c53 := by kernel_rfl
  c75 := by kernel_rfl
  c76 := by kernel_rfl
  c80 := by kernel_rfl
  c85 := by kernel_rfl
  c127 := by kernel_rfl
  c143 := by kernel_rfl
  c145 := by kernel_rfl
  c167 := by kernel_rfl
  c168 := by kernel_rfl
  c171 := by kernel_rfl
  c173 := by kernel_rfl
  c175 := by kernel_rfl
  c210 := by kernel_rfl
  c212 := by kernel_rfl
  c213 := by kernel_rfl
  c232 := by kernel_rfl
  c233 := by kernel_rfl }
def Tryz.laySplit_ren : Go.Shelf.Ren := ⟨fun | 146 => 57 | 221 => 101 | 268 => 120 | 138 => 121 | 143 => 122 | 195 => 147 | 197 => 148 | 218 => 149 | 219 => 150 | 260 => 165 | 217 => 166 | 225 => 167 | 224 => 168 | 267 => 169 | 266 => 176 | 314 => 177 | n => n, fun | 9 => 9 | 31 => 65 | 3 => 3 | 4 => 4 | 0 => 0 | 105 => 200 | 21 => 21 | 5 => 5 | 46 => 164 | 119 => 230 | 139 => 233 | 138 => 232 | 146 => 234 | 51 => 22 | n => n, fun | 1 => 3 | 3 => 4 | 4 => 5 | n => n⟩
theorem Tryz.laySplit : Go.Proofs.Lays.n146 Tryz.prog Tryz.laySplit_ren := {
  mixed := by kernel_rfl
  f138 := Tryz.func121.trans (congrArg some (by kernel_rfl))
  f143 := Tryz.func122.trans (congrArg some (by kernel_rfl))
  f146 := Tryz.func57.trans (congrArg some (by kernel_rfl))
  f195 := Tryz.func147.trans (congrArg some (by kernel_rfl))
  f197 := Tryz.func148.trans (congrArg some (by kernel_rfl))
  f217 := Tryz.func166.trans (congrArg some (by kernel_rfl))
  f218 := Tryz.func149.trans (congrArg some (by kernel_rfl))
  f219 := Tryz.func150.trans (congrArg some (by kernel_rfl))
  f221 := Tryz.func101.trans (congrArg some (by kernel_rfl))
  f224 := Tryz.func168.trans (congrArg some (by kernel_rfl))
  f225 := Tryz.func167.trans (congrArg some (by kernel_rfl))
  f260 := Tryz.func165.trans (congrArg some (by kernel_rfl))
  f266 := Tryz.func176.trans (congrArg some (by kernel_rfl))
  f267 := Tryz.func169.trans (congrArg some (by kernel_rfl))
  f268 := Tryz.func120.trans (congrArg some (by kernel_rfl))
  f314 := Tryz.func177.trans (congrArg some (by kernel_rfl))
  t0 := Tryz.underlying0
  a0 := Tryz.isAgg0
  z0 := Tryz.sizeOf0
  v0 := Tryz.zeroValue0
  t3 := Tryz.underlying3
  a3 := Tryz.isAgg3
  z3 := Tryz.sizeOf3
  v3 := Tryz.zeroValue3
  t4 := Tryz.underlying4
  a4 := Tryz.isAgg4
  z4 := Tryz.sizeOf4
  v4 := Tryz.zeroValue4
  t5 := Tryz.underlying5
  a5 := Tryz.isAgg5
  z5 := Tryz.sizeOf5
  v5 := Tryz.zeroValue5
  t9 := Tryz.underlying9
  a9 := Tryz.isAgg9
  z9 := Tryz.sizeOf9
  v9 := Tryz.zeroValue9
  t21 := Tryz.underlying21
  a21 := Tryz.isAgg21
  z21 := Tryz.sizeOf21
  v21 := Tryz.zeroValue21
  t31 := Tryz.underlying65
  a31 := Tryz.isAgg65
  z31 := Tryz.sizeOf65
  v31 := Tryz.zeroValue65
  t46 := Tryz.underlying164
  a46 := Tryz.isAgg164
  z46 := Tryz.sizeOf164
  v46 := Tryz.zeroValue164
  t51 := Tryz.underlying22
  a51 := Tryz.isAgg22
  z51 := Tryz.sizeOf22
  v51 := Tryz.zeroValue22
  t105 := Tryz.underlying200
  a105 := Tryz.isAgg200
  z105 := Tryz.sizeOf200
  v105 := Tryz.zeroValue200
  t119 := Tryz.underlying230
  a119 := Tryz.isAgg230
  z119 := Tryz.sizeOf230
  t138 := Tryz.underlying232
  a138 := Tryz.isAgg232
  z138 := Tryz.sizeOf232
  v138 := Tryz.zeroValue232
  t139 := Tryz.underlying233
  a139 := Tryz.isAgg233
  z139 := Tryz.sizeOf233
  v139 := Tryz.zeroValue233
  t146 := Tryz.underlying234
  a146 := Tryz.isAgg234
  z146 := Tryz.sizeOf234
  v146 := Tryz.zeroValue234
  g1 := by kernel_rfl
  g3 := by kernel_rfl
  g4 := by kernel_rfl }
end Go.Proofs
end
section
namespace Go.Proofs.T
open Go Go.AM Go.Proofs Go.Lib
set_option maxRecDepth 20000
variable {Γ : List (Nat × List AVal)}
structure GT (Γ : List (Nat × List AVal)) : Prop where
  pow : AM.look Γ 2 = some (Lib.pow10Tab.map fun z => .lit (.int .u64 z))
  errS : ∃ te pe, AM.look Γ 0 = some [.lit (.iface te pe)]
  errR : ∃ te pe, AM.look Γ 1 = some [.lit (.iface te pe)]
  maxL : ∃ m, AM.look Γ 3 = some [.lit (.int .i64 m)]
theorem itoa_c (hG : GT Γ) (n : Int) (h0 : -9223372036854775808 ≤ n) (h1 : n ≤ 9223372036854775807) : Pure Tryz.prog Γ 56 [.lit (.int .i64 n)] (.lit (.string (ByteArray.mk (itoa n).toArray))) :=
  Pure_Itoa (g := 2) Tryz.layItoa (by kernel_rfl) hG.pow n h0 h1
theorem atoi_c (hG : GT Γ) (l : List UInt8) (hl : l.length ≤ 281474976710656) : Pure Tryz.prog Γ 58 [.lit (.string (ByteArray.mk l.toArray))] (.tup [.lit (.int .i64 (atoiV l)), .junk]) := by
  obtain ⟨te, pe, h1⟩ := hG.errS
  obtain ⟨te', pe', h2⟩ := hG.errR
  exact Pure_Atoi Tryz.layAtoi h1 h2 l hl
theorem split_c (hG : GT Γ) (l : List UInt8) (hl : l.length < 4294967281) : Pure Tryz.prog Γ 57 [.lit (.string (ByteArray.mk l.toArray)), .lit (.string (ByteArray.mk [(32 : UInt8)].toArray))] (strs (split l [32])) := by
  obtain ⟨m, h1⟩ := hG.maxL
  exact Pure_Split Tryz.laySplit (by kernel_rfl) h1 l [32] hl (by simp)
theorem name_c (r : Nat) (hr : r < 256) : Pure Tryz.prog Γ 27 [.lit (.int .u8 (r : Int))] (.lit (.string (ByteArray.mk (nm r).toArray))) := by
  by_cases h : r < 18
  · have hc : r = 0 ∨ r = 1 ∨ r = 2 ∨ r = 3 ∨ r = 4 ∨ r = 5 ∨ r = 6 ∨ r = 7 ∨ r = 8 ∨ r = 9 ∨ r = 10 ∨ r = 11 ∨ r = 12 ∨ r = 13 ∨ r = 14 ∨ r = 15 ∨ r = 16 ∨ r = 17 := by omega
    rcases hc with rfl | rfl | rfl | rfl | rfl | rfl | rfl | rfl | rfl | rfl | rfl | rfl | rfl | rfl | rfl | rfl | rfl | rfl
    all_goals exact Pure_ev (k' := 1) 20 rfl rfl (by kernel_rfl)
  · rw [nm_big (by omega)]
    refine Pure_at Tryz.func27 rfl 10 rfl (Nat.le_of_ble_eq_true rfl) rfl fun k => ?_
    have kp : Kp [0,2,3,6] (fun i => i - k) := kpI
    refine wl ?_ <;> and_intros <;> first | exact hdT | (apply zM; (repeat intro ht); apply zM; (repeat intro hg); apply zM)
    · refine C_ret rfl ⟨_, rfl, VLe.of_eq ?_⟩
      rfl
end Go.Proofs.T
end
section
namespace Go.Proofs.T
open Go Go.AM Go.Proofs Go.Lib
set_option maxRecDepth 20000
variable {Γ : List (Nat × List AVal)}
def flt (r : Nat) (a b : Int) : List AVal := [.lit (.int .u8 (r : Int)), .lit (.int .i64 a), .lit (.int .i64 b)]
attribute [go_sem] flt
def textT (r : Nat) (a b : Int) : List UInt8 := if textOk r a b = true then txt r a b else []
def textE (r : Nat) (a b : Int) : Int := if textOk r a b = true then 0 else 2
theorem nm_len (r : Nat) : (nm r).length ≤ 7 := by
  by_cases h : r < 18
  · have : ((List.range 18).all fun r => decide ((nm r).length ≤ 7)) = true := by decide +kernel
    simpa using List.all_eq_true.1 this r (List.mem_range.2 h)
  · rw [nm_big (by omega)]; simp
theorem textOk_iff {r : Nat} {a b : Int} : textOk r a b = true ↔ nm r ≠ [] ∧ 0 ≤ a ∧ 0 ≤ b := by simp [textOk, and_assoc]
theorem text_c (hG : GT Γ) (r : Nat) (a b : Int) (hr : r < 256) (ha : a ≤ 9223372036854775807) (hb : b ≤ 9223372036854775807) : Pure Tryz.prog Γ 25 [.agg (flt r a b)] (.tup [.lit (.string (ByteArray.mk (textT r a b).toArray)), .lit (.int .i64 (textE r a b))]) := by
  have hl := nm_len r
  refine Pure_at Tryz.func25 rfl 31 rfl (Nat.le_of_ble_eq_true rfl) rfl fun k => ?_
  have kp : Kp [0,1,2,3,17] (fun i => i - k) := kpI
  refine wl ?_ <;> and_intros <;> first | exact hdT | (apply zM; (repeat intro ht); apply zM; (repeat intro hg); apply zM)
  refine cl [.ret (.lit (.string (ByteArray.mk (nm r).toArray)))] ?_ <;> and_intros <;> first | exact hdT | (apply zM; (repeat intro ht); apply zM; (repeat intro hg); apply zM)
  · exact name_c r hr
  all_goals ((refine wl ?_ <;> and_intros <;> first | exact hdT | (apply zM; (repeat intro ht); apply zM; (repeat intro hg); apply zM)))
  · have hk : ¬ textOk r a b = true := by rw [textOk_iff]; omega
    refine C_ret rfl ⟨_, rfl, VLe.of_eq ?_⟩
    rw [textT, textE, if_neg hk, if_neg hk]
  · have hk : textOk r a b = true := by rw [textOk_iff]; exact ⟨by assumption, by omega, by omega⟩
    have l1 := itoa_len a (by omega) (by omega)
    have l2 := itoa_len b (by omega) (by omega)
    refine dl [.ret (.lit (.string (ByteArray.mk (nm r).toArray))), .ret (.lit (.string (ByteArray.mk (itoa a).toArray))), .ret (.lit (.string (ByteArray.mk (itoa b).toArray)))] ?_ <;> and_intros <;> first | exact hdT | (apply zM; (repeat intro ht); apply zM; (repeat intro hg); apply zM)
    · exact name_c r hr
    · exact itoa_c hG a (by omega) (by omega)
    · exact itoa_c hG b (by omega) (by omega)
    · refine C_ret rfl ⟨_, rfl, VLe.of_eq ?_⟩
      rw [textT, textE, if_pos hk, if_pos hk, txt]
      simp
  · have hk : ¬ textOk r a b = true := by rw [textOk_iff]; omega
    refine C_ret rfl ⟨_, rfl, VLe.of_eq ?_⟩
    rw [textT, textE, if_neg hk, if_neg hk]
  · have hk : ¬ textOk r a b = true := by rw [textOk_iff]; simp [hg]
    refine C_ret rfl ⟨_, rfl, VLe.of_eq ?_⟩
    rw [textT, textE, if_neg hk, if_neg hk]
attribute [go_sem] strs
theorem splitK_len (x : List UInt8) : ∀ (k : Nat) (s : List UInt8), x ∈ splitK [32] 0 k s → x.length ≤ s.length
  | 0, s, h => by simp only [splitK, List.mem_singleton] at h; subst h; exact Nat.le_refl _
  | k + 1, s, h => by
    rw [splitK] at h
    split at h
    · simp only [List.mem_singleton] at h; subst h; exact Nat.le_refl _
    · rcases List.mem_cons.1 h with rfl | h
      · rw [List.length_take]; omega
      · have := splitK_len x k _ h; rw [List.length_drop] at this; omega
theorem split_len {x s : List UInt8} (h : x ∈ split s [32]) : x.length ≤ s.length := splitK_len x _ s h
theorem read_c (hG : GT Γ) (s : List UInt8) (hs : s.length ≤ 200) : Pure Tryz.prog Γ 26 [.lit (.string (ByteArray.mk s.toArray))] (.tup [.agg (flt (readP s).1.1 (readP s).1.2.1 (readP s).1.2.2), .lit (.int .i64 (readP s).2)]) := by
  obtain ⟨ws, hws⟩ : ∃ ws, split s [32] = ws := ⟨_, rfl⟩
  have hlw : ∀ x ∈ ws, x.length ≤ 200 := fun x hx => by rw [← hws] at hx; have := split_len hx; omega
  have hR : readP s = if ws.length = 3 then (if textOk (ruleGo (ws.getD 0 []) 18) (atoiV (ws.getD 1 [])) (atoiV (ws.getD 2 [])) = true ∧ txt (ruleGo (ws.getD 0 []) 18) (atoiV (ws.getD 1 [])) (atoiV (ws.getD 2 [])) = s then ((ruleGo (ws.getD 0 []) 18, atoiV (ws.getD 1 []), atoiV (ws.getD 2 [])), 0) else rdErr) else rdErr := by
    rw [← hws]; rfl
  generalize readP s = R at hR ⊢
  refine Pure_at Tryz.func26 rfl 57 rfl (Nat.le_of_ble_eq_true rfl) rfl fun k => ?_
  have kp : Kp [0,2,3,4,5,6,7,8,13,15,16,23,54] (fun i => i - k) := kpI
  refine wl ?_ <;> and_intros <;> first | exact hdT | (apply zM; (repeat intro ht); apply zM; (repeat intro hg); apply zM)
  refine cl [.ret (strs ws)] ?_ <;> and_intros <;> first | exact hdT | (apply zM; (repeat intro ht); apply zM; (repeat intro hg); apply zM)
  · rw [← hws]; exact split_c hG s (by omega)
  refine wl ?_ <;> and_intros <;> first | exact hdT | (apply zM; (repeat intro ht); apply zM; (repeat intro hg); apply zM)
  · have uU := Go.AM.uU; refine cR ?_; apply zN
    rw [hR, if_neg (by omega)]
    exact VLe.refl _
  rw [if_pos (by omega)] at hR
  have hlen3 : ws.length = 3 := by omega
  rcases ws with _ | ⟨w0, _ | ⟨w1, _ | ⟨w2, _ | ⟨w3, ws⟩⟩⟩⟩
  · simp at hlen3
  · simp at hlen3
  · simp at hlen3
  · simp only [List.getD_cons_zero, List.getD_cons_succ] at hR
    refine M_forO (X := Nat) rfl [0,2,3,4,5,6,7,8,13,15,16,23,54] (k + 2) (fun i => [(15, .lit (.int .u8 (i : Int)))]) (fun i => [(k + 1, ⟨3, true, [flt (ruleGo w0 i) 0 0]⟩), (k, ⟨3, true, [flt 0 0 0]⟩)]) (fun i => i ≤ 18) (fun i => 18 - i) 0 ?_ (Nat.zero_le _) ?_
    · rw [ruleGo]
      refine rR ?_ <;> first | exact hdT | apply zN
      exact wkA
    intro i hi
    refine rR ?_ <;> first | exact hdT | apply zN
    have hl0 : w0.length ≤ 200 := hlw w0 (by simp)
    have hl1 : w1.length ≤ 200 := hlw w1 (by simp)
    have hl2 : w2.length ≤ 200 := hlw w2 (by simp)
    have b1 := atoiV_bounds w1
    have b2 := atoiV_bounds w2
    refine wl ?_ <;> and_intros <;> first | exact hdT | (apply zM; (repeat intro ht); apply zM; (repeat intro hg); apply zM)
    · refine dl [.ret (.lit (.string (ByteArray.mk (nm i).toArray)))] ?_ <;> and_intros <;> first | exact hdT | (apply zM; (repeat intro ht); apply zM; (repeat intro hg); apply zM)
      · exact name_c i (by omega)
      · refine wl ?_ <;> and_intros <;> first | exact hdT | (apply zM; (repeat intro ht); apply zM; (repeat intro hg); apply zM)
        · refine ⟨i + 1, by omega, by omega, ?_⟩
          have e2 : ((i + 1 : Nat) : Int) = (i : Int) + 1 := by omega
          rw [ruleGo, if_pos (by assumption), e2]
          exact wkA
        · refine ⟨i + 1, by omega, by omega, ?_⟩
          have e2 : ((i + 1 : Nat) : Int) = (i : Int) + 1 := by omega
          rw [ruleGo, if_neg (by assumption), e2]
          exact wkA
    · have hi18 : i = 18 := by omega
      subst hi18
      obtain ⟨r, hr⟩ : ∃ r, ruleGo w0 18 = r := ⟨_, rfl⟩
      have hr18 := ruleGo_lt w0 18
      rw [hr] at hr18 hR
      obtain ⟨a, ha⟩ : ∃ a, atoiV w1 = a := ⟨_, rfl⟩
      obtain ⟨b, hb⟩ : ∃ b, atoiV w2 = b := ⟨_, rfl⟩
      rw [ha, hb] at hR
      rw [ha] at b1
      rw [hb] at b2
      have uU := @hr
      refine cl [.ret (.tup [.lit (.int .i64 a), .junk])] ?_ <;> and_intros <;> first | exact hdT | (apply zM; (repeat intro ht); apply zM; (repeat intro hg); apply zM)
      · rw [← ha]; exact atoi_c hG w1 (by omega)
      refine wl ?_ <;> and_intros <;> first | exact hdT | (apply zM; (repeat intro ht); apply zM; (repeat intro hg); apply zM)
      refine cl [.ret (.tup [.lit (.int .i64 b), .junk])] ?_ <;> and_intros <;> first | exact hdT | (apply zM; (repeat intro ht); apply zM; (repeat intro hg); apply zM)
      · rw [← hb]; exact atoi_c hG w2 (by omega)
      refine wl ?_ <;> and_intros <;> first | exact hdT | (apply zM; (repeat intro ht); apply zM; (repeat intro hg); apply zM)
      refine cl [.ret (.tup [.lit (.string (ByteArray.mk (textT r a b).toArray)), .lit (.int .i64 (textE r a b))])] ?_ <;> and_intros <;> first | exact hdT | (apply zM; (repeat intro ht); apply zM; (repeat intro hg); apply zM)
      · exact text_c hG r a b (by omega) (by omega) (by omega)
      have hT : textOk r a b = true → textT r a b = txt r a b ∧ textE r a b = 0 := fun h => by rw [textT, textE, if_pos h, if_pos h]; exact ⟨rfl, rfl⟩
      have hF : ¬ textOk r a b = true → textE r a b = 2 := fun h => by rw [textE, if_neg h]
      refine wl ?_ <;> and_intros <;> first | exact hdT | (apply zM; (repeat intro ht); apply zM; (repeat intro hg); apply zM)
      · have uU := @hr; refine cR ?_; apply zN
        rw [hR, if_neg (fun h => ht (by rw [(hT h.1).1]; exact h.2))]
        exact VLe.refl _
      · have hk : textOk r a b = true := by
          by_cases h : textOk r a b = true
          · exact h
          · have := hF h; omega
        have uU := @hr; refine cR ?_; apply zN
        rw [hR, if_pos ⟨hk, by rw [← (hT hk).1]; exact ht⟩]
        exact VLe.refl _
      · have uU := @hr; refine cR ?_; apply zN
        rw [hR, if_neg (fun h => hg (hT h.1).2)]
        exact VLe.refl _
  · simp at hlen3
end Go.Proofs.T
end
section
namespace Go.Proofs.T
open Go Go.AM Go.Proofs Go.Lib
set_option maxRecDepth 20000
variable {Γ : List (Nat × List AVal)}
theorem text_ok (hG : GT Γ) {r : Nat} {a b : Int} (h1 : 1 ≤ r) (h2 : r ≤ 17) (ha : 0 ≤ a) (ha1 : a ≤ 9223372036854775807) (hb : 0 ≤ b) (hb1 : b ≤ 9223372036854775807) :
    AM.Pure Tryz.prog Γ 25 [.agg (flt r a b)] (.tup [.lit (.string (ByteArray.mk (txt r a b).toArray)), .lit (.int .i64 0)]) := by
  have hk : textOk r a b = true := by rw [textOk_iff, ne_eq, nm_nil]; omega
  have h := text_c hG r a b (by omega) (by omega) (by omega)
  rw [textT, textE, if_pos hk, if_pos hk] at h
  exact h
theorem text_no (hG : GT Γ) {r : Nat} {a b : Int} (hr : r < 256) (h : ¬ (1 ≤ r ∧ r ≤ 17 ∧ 0 ≤ a ∧ 0 ≤ b)) (ha1 : a ≤ 9223372036854775807) (hb1 : b ≤ 9223372036854775807) :
    AM.Pure Tryz.prog Γ 25 [.agg (flt r a b)] (.tup [.lit (.string (ByteArray.mk ([] : List UInt8).toArray)), .lit (.int .i64 2)]) := by
  have hk : ¬ textOk r a b = true := by rw [textOk_iff, ne_eq, nm_nil]; omega
  have h := text_c hG r a b hr ha1 hb1
  rw [textT, textE, if_neg hk, if_neg hk] at h
  exact h
theorem txt_len {r : Nat} {a b : Int} (ha : 0 ≤ a) (ha1 : a ≤ 9223372036854775807) (hb : 0 ≤ b) (hb1 : b ≤ 9223372036854775807) : (txt r a b).length ≤ 200 := by
  have l1 := itoa_len a (by omega) (by omega)
  have l2 := itoa_len b (by omega) (by omega)
  have l3 := nm_len r
  simp only [txt, List.length_append, List.length_cons]
  omega
theorem read_ok (hG : GT Γ) {r : Nat} {a b : Int} (h1 : 1 ≤ r) (h2 : r ≤ 17) (ha : 0 ≤ a) (ha1 : a ≤ 9223372036854775807) (hb : 0 ≤ b) (hb1 : b ≤ 9223372036854775807) :
    AM.Pure Tryz.prog Γ 26 [.lit (.string (ByteArray.mk (txt r a b).toArray))] (.tup [.agg (flt r a b), .lit (.int .i64 0)]) := by
  have h := read_c hG (txt r a b) (txt_len ha ha1 hb hb1)
  rw [readP_is ⟨h1, h2, ha, ha1, hb, hb1, rfl⟩] at h
  exact h
set_option maxHeartbeats 8000000 in
theorem auditTold (hG : GT Γ) (x : Nums) (hx : NumsOk x) (f : Nat → Sm) (hf : ∀ i, SmOk (f i)) (nl : Nat) (hnl : nl ≤ 9223372036854775807) (a c : Int) (ha0 : 0 ≤ a) (ha1 : a ≤ 255) (hc0 : 0 ≤ c) (hc1 : c ≤ 255)
    (r : Nat) (u v : Int) (s : List UInt8) (hr : r < 256) (hu : u ≤ 9223372036854775807) (hv : v ≤ 9223372036854775807) :
    AM.Pure Tryz.prog Γ 8 [.agg x.cells, .rd 8 nl (fun i => smc (f i)), .lit (.int .u8 a), .lit (.int .u8 c), .agg (flt r u v), .lit (.string (ByteArray.mk s.toArray))] (.lit (.bool true)) := by
  obtain ⟨n, ng, Ls, hM⟩ := lmades x hx f hf (Γ := Γ)
  obtain ⟨q, hq⟩ : ∃ q, q = min nl 20 := ⟨_, rfl⟩
  have hq2 : q ≤ 20 := by omega
  have hmade := hM.made nl 20 q hq (by omega) (by omega) hnl
  obtain ⟨hrt, htl, hsl⟩ := hM.rt q (by omega)
  have hn4 := hM.n4
  have hg6 := hM.g6
  have hpre : PreS (Ls q).st 0 := hrt.r0.pre hn4 (by omega) (by omega)
  obtain ⟨wa, hwa⟩ : ∃ w : Nat, a % 40 = (w : Int) := ⟨(a % 40).toNat, by omega⟩
  obtain ⟨wc, hwc⟩ : ∃ w : Nat, c % 40 = (w : Int) := ⟨(c % 40).toNat, by omega⟩
  obtain ⟨s1, hp1, hs1⟩ := spoilt_ex Γ hpre (by omega) wa (by omega)
  obtain ⟨s2, hp2, hs2⟩ := spoilt_ex Γ hp1 (by omega) wc (by omega)
  have hs2 := Pure_arg hs2 (vle2 (cellsZ_le s1))
  obtain ⟨m, R, A, B, hm, hRAB, hlt, hle⟩ := told_ex hp2 (by omega)
  have hck := Pure_le0 (checkZ Γ hp2 (by omega)) hle
  have e1 : a.tmod 40 = (wa : Int) := by rw [Int.tmod_eq_emod_of_nonneg ha0, hwa]
  have e2 : c.tmod 40 = (wc : Int) := by rw [Int.tmod_eq_emod_of_nonneg hc0, hwc]
  have e3 : IntKind.i64.wrap a = a := wrap_i64 (by omega) (by omega)
  have e4 : IntKind.i64.wrap c = c := wrap_i64 (by omega) (by omega)
  obtain ⟨S, eS⟩ : ∃ S, S = (Ls q).st.cells := ⟨_, rfl⟩
  have hSl : S.length = 7 := by rw [eS]; rfl
  have hSt : S.take 7 = S := by rw [eS]; rfl
  have hSo : S.all AM.one = true := by rw [eS]; rfl
  have hSc : S.all clean = true := by rw [eS]; rfl
  have hSb : ∀ p : Nat → Bool, S.all (bd0 p) = true := fun p => by rw [eS]; rfl
  have hSd : List.drop 7 S = [] := by rw [eS]; rfl
  obtain ⟨Z1, eZ1⟩ : ∃ Z, Z = cellsZ s1 := ⟨_, rfl⟩
  obtain ⟨Z2, eZ2⟩ : ∃ Z, Z = cellsZ s2 := ⟨_, rfl⟩
  have hZ1b : ∀ p : Nat → Bool, Z1.all (bd0 p) = true := fun p => by rw [eZ1]; unfold cellsZ; split <;> rfl
  have hZ2b : ∀ p : Nat → Bool, Z2.all (bd0 p) = true := fun p => by rw [eZ2]; unfold cellsZ; split <;> rfl
  rw [← eS] at hmade hs1
  rw [← eZ1] at hs1 hs2
  rw [← eZ2] at hs2 hck
  obtain ⟨NC, eNC⟩ : ∃ NC, NC = x.cells := ⟨_, rfl⟩
  have hNl : NC.length = 13 := by rw [eNC]; rfl
  have hNt : NC.take 13 = NC := by rw [eNC]; rfl
  have hNo : NC.all AM.one = true := by rw [eNC]; rfl
  have hNc : NC.all clean = true := by rw [eNC]; rfl
  have hNb : ∀ p : Nat → Bool, NC.all (bd0 p) = true := fun p => by rw [eNC]; rfl
  have hNd : List.drop 13 NC = [] := by rw [eNC]; rfl
  rw [← eNC] at hmade
  rw [← eNC]
  refine Pure_at Tryz.func8 rfl 209 rfl (Nat.le_of_ble_eq_true rfl) rfl fun k => ?_
  have kp : Kp [0,1,2,3,4,5,6,10,12,13,14,15,16,17,18,19,20,21,22,23,24,25,26,27,28,30,38,49,50,51,52,85,87,125,165,167,179,182,189] (fun i => i - k) := kpI
  have uU := zA @hSl (zA @hSt (zA @hSo (zA @hSc (zA @hSb (zA @hSd (zA @hNl (zA @hNt (zA @hNo (zA @hNc (zA @hNb (zA @hNd (zA @apN (zA @e1 (zA @e2 (zA @e3 (zA @e4 (zA @hZ1b @hZ2b)))))))))))))))))
  refine wl ?_ <;> and_intros <;> first | exact hdT | (apply zM; (repeat intro ht); apply zM; (repeat intro hg); apply zM)
  refine cl [.ret (.lit (.bool true))] ?_ <;> and_intros <;> first | exact hdT | (apply zM; (repeat intro ht); apply zM; (repeat intro hg); apply zM)
  · exact awakeG
  refine wl ?_ <;> and_intros <;> first | exact hdT | (apply zM; (repeat intro ht); apply zM; (repeat intro hg); apply zM)
  refine cl [.ret (.tup [.agg S, .lit (.bool true)])] ?_ <;> and_intros <;> first | exact hdT | (apply zM; (repeat intro ht); apply zM; (repeat intro hg); apply zM)
  · exact hmade
  refine wl ?_ <;> and_intros <;> first | exact hdT | (apply zM; (repeat intro ht); apply zM; (repeat intro hg); apply zM)
  refine cl [.ret (.agg Z1), .ret (.agg Z2), .ret (.rd 3 m fun i => [.lit (.int .u8 (R i : Int)), .lit (.int .i64 (A i)), .lit (.int .i64 (B i))])] ?_ <;> and_intros <;> first | exact hdT | (apply zM; (repeat intro ht); apply zM; (repeat intro hg); apply zM)
  all_goals (try (first | exact hs1 | exact hs2 | exact hck))
  refine wl ?_ <;> and_intros <;> first | exact hdT | (apply zM; (repeat intro ht); apply zM; (repeat intro hg); apply zM)
  refine M_forO (X := Nat) rfl [0,1,2,3,4,5,6,10,12,13,14,15,16,17,18,19,20,21,22,23,24,25,26,27,28,30,38,49,50,51,52,85,87,125,165,167,179,182,189] (k + 3) (fun i => [(51, .lit (.int .i64 (i : Int)))]) (fun i => [(k + 2, ⟨7, true, [S]⟩), (k + 1, ⟨3, true, [flt r u v]⟩), (k, ⟨13, true, [NC]⟩)]) (fun i => i ≤ m) (fun i => m - i) 0 ?_ (Nat.zero_le _) ?_
  · refine rR ?_ <;> first | exact hdT | apply zN
    exact wkA (hf := by simp -dsimp -implicitDefEqProofs only [go_sem, hSl, hSt, hSo, hSc, hSb, hSd, hNl, hNt, hNo, hNc, hNb, hNd, List.append_nil, e1, e2, e3, e4, hZ1b, hZ2b, List.map_append, eq_self, ↓reduceIte]) (hH := by simp -dsimp -implicitDefEqProofs only [go_sem, hSl, hSt, hSo, hSc, hSb, hSd, hNl, hNt, hNo, hNc, hNb, hNd, List.append_nil, e1, e2, e3, e4, hZ1b, hZ2b, List.map_append, eq_self, ↓reduceIte]) (h := by simp -dsimp -implicitDefEqProofs only [go_sem, hSl, hSt, hSo, hSc, hSb, hSd, hNl, hNt, hNo, hNc, hNb, hNd, List.append_nil, e1, e2, e3, e4, hZ1b, hZ2b, List.map_append, eq_self, ↓reduceIte]) (h' := by simp -dsimp -implicitDefEqProofs only [go_sem, hSl, hSt, hSo, hSc, hSb, hSd, hNl, hNt, hNo, hNc, hNb, hNd, List.append_nil, e1, e2, e3, e4, hZ1b, hZ2b, List.map_append, eq_self, ↓reduceIte])
  intro i hi
  refine rR ?_ <;> first | exact hdT | apply zN
  by_cases him : i < m
  · obtain ⟨r1, r2, r3, r4, r5, r6⟩ := hRAB i him
    have cT := text_ok hG r1 (by omega) r3 (by omega) r5 (by omega)
    have cR := read_ok hG r1 (by omega) r3 (by omega) r5 (by omega)
    have cN := name_c (R i) (by omega) (Γ := Γ)
    refine wl ?_ <;> and_intros <;> first | exact hdT | (apply zM; (repeat intro ht); apply zM; (repeat intro hg); apply zM)
    refine cl [.ret (.tup [.lit (.string (ByteArray.mk (txt (R i) (A i) (B i)).toArray)), .lit (.int .i64 0)])] ?_ <;> and_intros <;> first | exact hdT | (apply zM; (repeat intro ht); apply zM; (repeat intro hg); apply zM)
    all_goals (try exact cT)
    refine wl ?_ <;> and_intros <;> first | exact hdT | (apply zM; (repeat intro ht); apply zM; (repeat intro hg); apply zM)
    refine cl [.ret (.tup [.agg (flt (R i) (A i) (B i)), .lit (.int .i64 0)])] ?_ <;> and_intros <;> first | exact hdT | (apply zM; (repeat intro ht); apply zM; (repeat intro hg); apply zM)
    all_goals (try exact cR)
    refine wl ?_ <;> and_intros <;> first | exact hdT | (apply zM; (repeat intro ht); apply zM; (repeat intro hg); apply zM)
    have hN0 : ¬ nm (R i) = [] := by rw [nm_nil]; omega
    have hl0 : i = 0 ∨ ((R (i - 1) : Int) < R i ∨ ((R (i - 1) : Int) = R i ∧ (A (i - 1) < A i ∨ (A (i - 1) = A i ∧ B (i - 1) < B i)))) := by
      rcases i with _ | j
      · exact .inl rfl
      · exact .inr (hlt j (by omega))
    have hw1 : IntKind.i64.wrap ((i : Int) - 1) = (i : Int) - 1 := wrap_i64 (by omega) (by omega)
    have hpn : ((i : Int) - 1).toNat = i - 1 := by omega
    have uU := zA @hSl (zA @hSt (zA @hSo (zA @hSc (zA @hSb (zA @hSd (zA @hNl (zA @hNt (zA @hNo (zA @hNc (zA @hNb (zA @hNd (zA @apN (zA @hN0 (zA @hw1 @hpn))))))))))))))
    refine cl [.ret (.lit (.string (ByteArray.mk (nm (R i)).toArray)))] ?_ <;> and_intros <;> first | exact hdT | (apply zM; (repeat intro ht); apply zM; (repeat intro hg); apply zM)
    all_goals (try exact cN)
    all_goals (try exact absurd ‹nm (R i) = []› hN0)
    all_goals (try exact absurd (wrap_i64 (by omega) (by omega)) ‹¬IntKind.i64.wrap 0 = 0›)
    refine wl ?_ <;> and_intros <;> first | exact hdT | (apply zM; (repeat intro ht); apply zM; (repeat intro hg); apply zM)
    all_goals (refine ⟨i + 1, by omega, by omega, ?_⟩; exact wkA (hf := by simp -dsimp -implicitDefEqProofs only [go_sem, hSl, hSt, hSo, hSc, hSb, hSd, hNl, hNt, hNo, hNc, hNb, hNd, List.append_nil, hN0, hw1, hpn, List.map_append, eq_self, ↓reduceIte]) (hH := by simp -dsimp -implicitDefEqProofs only [go_sem, hSl, hSt, hSo, hSc, hSb, hSd, hNl, hNt, hNo, hNc, hNb, hNd, List.append_nil, hN0, hw1, hpn, List.map_append, eq_self, ↓reduceIte]) (h := by simp -dsimp -implicitDefEqProofs only [go_sem, hSl, hSt, hSo, hSc, hSb, hSd, hNl, hNt, hNo, hNc, hNb, hNd, List.append_nil, hN0, hw1, hpn, List.map_append, eq_self, ↓reduceIte]) (h' := by simp -dsimp -implicitDefEqProofs only [go_sem, hSl, hSt, hSo, hSc, hSb, hSd, hNl, hNt, hNo, hNc, hNb, hNd, List.append_nil, hN0, hw1, hpn, List.map_append, eq_self, ↓reduceIte]))
  · have him2 : i = m := by omega
    subst him2
    obtain ⟨T0, E0, ob, hcs⟩ : ∃ (T0 : List UInt8) (E0 : Int) (ob : Bool), ((1 ≤ r ∧ r ≤ 17 ∧ 0 ≤ u ∧ 0 ≤ v) ∧ T0 = txt r u v ∧ E0 = 0 ∧ ob = true) ∨ (¬ (1 ≤ r ∧ r ≤ 17 ∧ 0 ≤ u ∧ 0 ≤ v) ∧ T0 = [] ∧ E0 = 2 ∧ ob = false) := by
      by_cases hok : 1 ≤ r ∧ r ≤ 17 ∧ 0 ≤ u ∧ 0 ≤ v
      · exact ⟨_, _, _, .inl ⟨hok, rfl, rfl, rfl⟩⟩
      · exact ⟨_, _, _, .inr ⟨hok, rfl, rfl, rfl⟩⟩
    have cT : AM.Pure Tryz.prog Γ 25 [.agg (flt r u v)] (.tup [.lit (.string (ByteArray.mk T0.toArray)), .lit (.int .i64 E0)]) := by
      rcases hcs with ⟨hok, rfl, rfl, rfl⟩ | ⟨hok, rfl, rfl, rfl⟩
      · exact text_ok hG hok.1 hok.2.1 hok.2.2.1 hu hok.2.2.2 hv
      · exact text_no hG hr hok hu hv
    have uU := zA @hSl (zA @hSt (zA @hSo (zA @hSc (zA @hSb (zA @hSd (zA @hNl (zA @hNt (zA @hNo (zA @hNc (zA @hNb (zA @hNd @apN)))))))))))
    refine wl ?_ <;> and_intros <;> first | exact hdT | (apply zM; (repeat intro ht); apply zM; (repeat intro hg); apply zM)
    refine cl [.ret (.tup [.lit (.string (ByteArray.mk T0.toArray)), .lit (.int .i64 E0)])] ?_ <;> and_intros <;> first | exact hdT | (apply zM; (repeat intro ht); apply zM; (repeat intro hg); apply zM)
    all_goals (try exact cT)
    refine M_midO (X := Unit) rfl [0,1,2,3,4,5,6,10,12,13,14,15,16,17,18,19,20,21,22,23,24,25,26,27,28,30,38,49,50,51,52,85,87,125,165,167,179,182,189] (k + 3) (fun _ => [(23, .lit (.string (ByteArray.mk T0.toArray))), (24, .lit (.int .i64 E0))]) (fun _ => [(k + 2, ⟨7, true, [S]⟩), (k + 1, ⟨3, true, [flt r u v]⟩), (k, ⟨13, true, [NC]⟩)]) (fun _ => True) ?_ ?_
    · rcases hcs with ⟨hok, rfl, rfl, rfl⟩ | ⟨hok, rfl, rfl, rfl⟩
      · refine wl ?_ <;> and_intros <;> first | exact hdT | (apply zM; (repeat intro ht); apply zM; (repeat intro hg); apply zM)
        all_goals (try exact absurd (decide_eq_true hok.2.2.2) ‹_›)
        exact ⟨(), by exact wkA (hf := by simp -dsimp -implicitDefEqProofs only [go_sem, hSl, hSt, hSo, hSc, hSb, hSd, hNl, hNt, hNo, hNc, hNb, hNd, List.append_nil, List.map_append, eq_self, ↓reduceIte]) (hH := by simp -dsimp -implicitDefEqProofs only [go_sem, hSl, hSt, hSo, hSc, hSb, hSd, hNl, hNt, hNo, hNc, hNb, hNd, List.append_nil, List.map_append, eq_self, ↓reduceIte]) (h := by simp -dsimp -implicitDefEqProofs only [go_sem, hSl, hSt, hSo, hSc, hSb, hSd, hNl, hNt, hNo, hNc, hNb, hNd, List.append_nil, List.map_append, eq_self, ↓reduceIte]) (h' := by simp -dsimp -implicitDefEqProofs only [go_sem, hSl, hSt, hSo, hSc, hSb, hSd, hNl, hNt, hNo, hNc, hNb, hNd, List.append_nil, List.map_append, eq_self, ↓reduceIte])⟩
      · refine wl ?_ <;> and_intros <;> first | exact hdT | (apply zM; (repeat intro ht); apply zM; (repeat intro hg); apply zM)
        all_goals (try exact absurd (decide_eq_false fun h => hok ⟨by omega, by omega, by omega, h⟩) ‹_›)
        all_goals (exact ⟨(), by exact wkA (hf := by simp -dsimp -implicitDefEqProofs only [go_sem, hSl, hSt, hSo, hSc, hSb, hSd, hNl, hNt, hNo, hNc, hNb, hNd, List.append_nil, List.map_append, eq_self, ↓reduceIte]) (hH := by simp -dsimp -implicitDefEqProofs only [go_sem, hSl, hSt, hSo, hSc, hSb, hSd, hNl, hNt, hNo, hNc, hNb, hNd, List.append_nil, List.map_append, eq_self, ↓reduceIte]) (h := by simp -dsimp -implicitDefEqProofs only [go_sem, hSl, hSt, hSo, hSc, hSb, hSd, hNl, hNt, hNo, hNc, hNb, hNd, List.append_nil, List.map_append, eq_self, ↓reduceIte]) (h' := by simp -dsimp -implicitDefEqProofs only [go_sem, hSl, hSt, hSo, hSc, hSb, hSd, hNl, hNt, hNo, hNc, hNb, hNd, List.append_nil, List.map_append, eq_self, ↓reduceIte])⟩)
    rintro _ _
    refine rR ?_ <;> first | exact hdT | apply zN
    refine M_midO (X := Unit) rfl [0,1,2,3,4,5,6,10,12,13,14,15,16,17,18,19,20,21,22,23,24,25,26,27,28,30,38,49,50,51,52,85,87,125,165,167,179,182,189] (k + 3) (fun _ => []) (fun _ => [(k + 2, ⟨7, true, [S]⟩), (k + 1, ⟨3, true, [flt r u v]⟩), (k, ⟨13, true, [NC]⟩)]) (fun _ => True) ?_ ?_
    · rcases hcs with ⟨hok, rfl, rfl, rfl⟩ | ⟨hok, rfl, rfl, rfl⟩
      · have cR := read_ok hG hok.1 hok.2.1 hok.2.2.1 hu hok.2.2.2 hv
        refine wl ?_ <;> and_intros <;> first | exact hdT | (apply zM; (repeat intro ht); apply zM; (repeat intro hg); apply zM)
        refine cl [.ret (.tup [.agg (flt r u v), .lit (.int .i64 0)])] ?_ <;> and_intros <;> first | exact hdT | (apply zM; (repeat intro ht); apply zM; (repeat intro hg); apply zM)
        all_goals (try exact cR)
        refine wl ?_ <;> and_intros <;> first | exact hdT | (apply zM; (repeat intro ht); apply zM; (repeat intro hg); apply zM)
        exact ⟨(), by exact wkA (hf := by simp -dsimp -implicitDefEqProofs only [go_sem, hSl, hSt, hSo, hSc, hSb, hSd, hNl, hNt, hNo, hNc, hNb, hNd, List.append_nil, List.map_append, eq_self, ↓reduceIte]) (hH := by simp -dsimp -implicitDefEqProofs only [go_sem, hSl, hSt, hSo, hSc, hSb, hSd, hNl, hNt, hNo, hNc, hNb, hNd, List.append_nil, List.map_append, eq_self, ↓reduceIte]) (h := by simp -dsimp -implicitDefEqProofs only [go_sem, hSl, hSt, hSo, hSc, hSb, hSd, hNl, hNt, hNo, hNc, hNb, hNd, List.append_nil, List.map_append, eq_self, ↓reduceIte]) (h' := by simp -dsimp -implicitDefEqProofs only [go_sem, hSl, hSt, hSo, hSc, hSb, hSd, hNl, hNt, hNo, hNc, hNb, hNd, List.append_nil, List.map_append, eq_self, ↓reduceIte])⟩
      · refine wl ?_ <;> and_intros <;> first | exact hdT | (apply zM; (repeat intro ht); apply zM; (repeat intro hg); apply zM)
        exact ⟨(), by exact wkA (hf := by simp -dsimp -implicitDefEqProofs only [go_sem, hSl, hSt, hSo, hSc, hSb, hSd, hNl, hNt, hNo, hNc, hNb, hNd, List.append_nil, List.map_append, eq_self, ↓reduceIte]) (hH := by simp -dsimp -implicitDefEqProofs only [go_sem, hSl, hSt, hSo, hSc, hSb, hSd, hNl, hNt, hNo, hNc, hNb, hNd, List.append_nil, List.map_append, eq_self, ↓reduceIte]) (h := by simp -dsimp -implicitDefEqProofs only [go_sem, hSl, hSt, hSo, hSc, hSb, hSd, hNl, hNt, hNo, hNc, hNb, hNd, List.append_nil, List.map_append, eq_self, ↓reduceIte]) (h' := by simp -dsimp -implicitDefEqProofs only [go_sem, hSl, hSt, hSo, hSc, hSb, hSd, hNl, hNt, hNo, hNc, hNb, hNd, List.append_nil, List.map_append, eq_self, ↓reduceIte])⟩
    rintro _ _
    refine rR ?_ <;> first | exact hdT | apply zN
    clear hcs cT
    refine wl ?_ <;> and_intros <;> first | exact hdT | (apply zM; (repeat intro ht); apply zM; (repeat intro hg); apply zM)
    · refine C_ret rfl ⟨_, rfl, VLe.refl _⟩
    have cR := read_c hG s (by omega)
    rcases readP_cases s with ⟨r', u', v', hIs, hrd⟩ | hrd
    · rw [hrd] at cR
      obtain ⟨i1, i2, i3, i4, i5, i6, i7⟩ := hIs
      have cT := text_ok hG i1 i2 i3 i4 i5 i6
      rw [← i7] at cT
      refine cl [.ret (.tup [.agg (flt r' u' v'), .lit (.int .i64 0)])] ?_ <;> and_intros <;> first | exact hdT | (apply zM; (repeat intro ht); apply zM; (repeat intro hg); apply zM)
      all_goals (try exact cR)
      refine wl ?_ <;> and_intros <;> first | exact hdT | (apply zM; (repeat intro ht); apply zM; (repeat intro hg); apply zM)
      refine cl [.ret (.tup [.lit (.string (ByteArray.mk s.toArray)), .lit (.int .i64 0)])] ?_ <;> and_intros <;> first | exact hdT | (apply zM; (repeat intro ht); apply zM; (repeat intro hg); apply zM)
      all_goals (try exact cT)
      refine wl ?_ <;> and_intros <;> first | exact hdT | (apply zM; (repeat intro ht); apply zM; (repeat intro hg); apply zM)
      refine C_ret rfl ⟨_, rfl, VLe.refl _⟩
    · rw [hrd] at cR
      refine cl [.ret (.tup [.agg (flt 0 0 0), .lit (.int .i64 321)])] ?_ <;> and_intros <;> first | exact hdT | (apply zM; (repeat intro ht); apply zM; (repeat intro hg); apply zM)
      all_goals (try exact cR)
      refine wl ?_ <;> and_intros <;> first | exact hdT | (apply zM; (repeat intro ht); apply zM; (repeat intro hg); apply zM)
      refine C_ret rfl ⟨_, rfl, VLe.refl _⟩
end Go.Proofs.T
end
section
namespace Go.AM
open Go Go.RowKit
theorem globIs_of {W : World} {g : Nat} {cs : List Value} {ty : TypeId} {x : Nat × Nat} (h : W.heap[g]? = some (.cells cs.toArray ty x)) : GlobIs W (fun b => b < W.heap.size) g (cs.map .lit) := by
  have hg : g < W.heap.size := (Array.getElem?_eq_some_iff.1 h).1
  refine ⟨.rp (fun j => cs.getD j undef) hg (fun j v hj => ?_) (fun j v hj => ?_), hg, _, _, _, h, by simp⟩
  · simp only [List.getElem?_map, Option.map_eq_some_iff] at hj
    obtain ⟨u, hu, rfl⟩ := hj
    unfold World.cell?
    simp [h, hu, List.getD]
  · simp only [List.getElem?_map, Option.map_eq_some_iff] at hj
    obtain ⟨u, hu, rfl⟩ := hj
    have e : cs.getD j undef = u := by simp [List.getD, hu]
    simp only [e]; exact .lit
theorem globIs_var {P : Program} {W : World} {g : Nat} {name : String} {cs : List Value} (hg : P.globalNamed name = some g) (h : W.var? P name = some cs.toArray) : GlobIs W (fun b => b < W.heap.size) g (cs.map .lit) := by
  unfold World.var? at h
  rw [hg, Option.bind_some] at h
  split at h
  · rename_i c t x hh; cases h; exact globIs_of hh
  · cases h
theorem globIs_int {P : Program} {W : World} {g : Nat} {t : TypeId} {zero : Array Value} {k : IntKind} (h : W.ShapedOpen P) (hg : g < P.globals.size)
    (h0 : ((begin P (fun _ _ => 0) default).world.heap[g]?).bind Obj.row? = some (zero, t)) (hz : zero.size = 1)
    (hb : P.buildable t = true) (hc : P.cellTypes P.depth t = some [t]) (hu : P.underlying t = some (.int k)) : ∃ m, GlobIs W (fun b => b < W.heap.size) g [.lit (.int k m)] := by
  obtain ⟨m, hm⟩ := Go.Proofs.cell_of_shapedOpen_int h hg h0 hz hb hc hu
  obtain ⟨cs, hh, hs, _⟩ := h.1 g zero t hg h0
  have e : cs = [Value.int k m].toArray := by
    unfold World.cell? at hm
    simp only [hh, Option.isSome_none, Bool.false_eq_true, if_false] at hm
    refine Array.ext (by simp [hs, hz]) fun i h1 h2 => ?_
    have : i = 0 := by simp at h2; exact h2
    subst this
    rw [Array.getElem?_eq_getElem h1] at hm
    simpa using hm
  rw [e] at hh
  exact ⟨m, globIs_of hh⟩
theorem row_callG {P : Program} {Γ : List (Nat × List AVal)} {f : FuncId} {vs : List AVal} {b : Bool} {args : Array Value} {W : World} (hΓ : ∀ g cells, look Γ g = some cells → GlobIs W (fun b => b < W.heap.size) g cells) (h : Pure P Γ f vs (.lit (.bool b)))
    (hv : Vs W (fun b => b < W.heap.size) noNames noAllow vs args) : Calls P f args W fun e W' => e = .returned (.bool b) ∧ Below W.heap.size W W' := by
  refine (h 0 noAllow (fun _ h => h.elim) W _ noNames args ⟨fun _ _ => rfl, fun id B A' hid => (by simp [ofHeap, look] at hid), fun i j b s t h => (by cases h), fun b hb => hb, hΓ⟩ hv).mono ?_
  rintro e W' ⟨cv, G', ρ', k', r, H', rfl, ⟨rfl, rfl, rfl⟩, _, _, hvr, hst⟩
  have e1 : cv = .bool b := by cases hvr; rfl
  subst e1
  exact ⟨rfl, hst.os, hst.tape, hst.output, hst.size, fun k hk => hst.keep k hk (fun ⟨_, _, h⟩ => by cases h)⟩
theorem row_both {H : Type} {enc : TypeId × Value → H} {a : Assume} {C : Checked} {os : Go.Os} {f : FuncId} {fn : Func} {s : ChangeSpec} {conds : List PathCond} {apart fresh handsOn again : Bool} {X : World → Array Value → Prop}
    (hX : ∀ (w w' : World) (args : Array Value), w.heap = w'.heap → X w args → X w' args)
    (own : ownKnob C.prog.godebug = none) (started : os.Started) (noInit : C.prog.inits.idxOf? f = none) (hfn : C.prog.funcs[f]? = some fn)
    (witness : ∃ (w : World) (tape : Tape) (i : Input), w.os = os ∧ (w.forCall tape i).Shaped C.prog ∧ i.vars = [] ∧ Input.okWide C.prog (w.forCall tape i) .any w.heap.size f i ∧
      ((s.pre enc C.prog fn conds apart (w.forCall tape i).memory i.args ∧ X (w.forCall tape i).memory i.args) ∧ sizedMet enc C.prog fn (OpenSpec.ofChange s) apart (w.forCall tape i).memory i.args) ∧ a.holds C.prog (lone (Frame.enter C.prog f i.args .normal) [] (w.forCall tape i)))
    (contract : ∀ (W : World) (base : Nat) (args : Array Value) (ds gs : List (DataW H)) (before : List MemPlace),
      (∀ (j : Nat) t v, fn.params[j]? = some t → args[j]? = some v → Value.okWide C.prog W .any base t v) →
      DataW.Whole enc C.prog fn.params.toList s.vars apart W args.toList ds gs before → W.ShapedOpen C.prog → X W args →
      Calls C.prog f args W fun e W' => ∃ v, e = .returned v ∧ s.post enc C.prog fn apart fresh handsOn again W args v W') :
    ReturnsInHanded a C os f .any (fun w args => (s.pre enc C.prog fn conds apart w args ∧ X w args) ∧ sizedMet enc C.prog fn (OpenSpec.ofChange s) apart w args) (s.post enc C.prog fn apart fresh handsOn again) := by
  refine returnsInHanded_of_calls own started noInit witness ?_
  intro w tape i _ hsh _ hok hpre hholds
  obtain ⟨_, _, _, fn', hfn', _, _, _, _, hval⟩ := hok
  have e : fn' = fn := Option.some.inj (hfn'.symm.trans hfn)
  subst e
  obtain ⟨⟨⟨ds, gs, before, hw, hc⟩, hx⟩, hz⟩ := hpre
  have hw' := DataW.Whole.of_heap (w' := w.forCall tape i) (by rfl) hw
  refine (contract (w.forCall tape i) w.heap.size i.args ds gs before hval hw' hsh (hX _ _ _ (by rfl) hx)).mono fun e W' ⟨v, he, hp⟩ => ?_
  subst he
  exact ChangeSpec.post_blind hp
end Go.AM
end
section
namespace Go.Proofs.T
open Go Go.AM Go.Proofs Go.ChangeMaps Go.ChangeShapes Go.WideShapes Go.ChangeAt Go.WideMaps Go.WideElems Go.RowKit Go.Proofs.YtkiadljldlppbaaGreatDoor
set_option maxRecDepth 100000
theorem rowES (u : TypeId) (h : Tryz.prog.typeName? 3 u = some "*errors.errorString") : u = 224 := by
  have star : "*" ++ "errors.errorString" = "*errors.errorString" := by decide
  exact typeName_ptr_named (nm := "errors.errorString") (by rw [star]; kernel_rfl) (by kernel_rfl) (by decide) u (by rw [star]; exact h)
theorem gt_of {W : World} (hL : laidMetH Tryz.prog Rows.auditToldRow.laid W) (hsh : W.ShapedOpen Tryz.prog) : ∃ Γ, GT Γ ∧ ∀ g cells, AM.look Γ g = some cells → GlobIs W (fun b => b < W.heap.size) g cells := by
  have h1 : laidMet Tryz.prog [("internal/strconv.uint64pow10", Lib.tabData .u64 Lib.pow10Tab)] W := laidMetH.filter (fun x => x.1 == "internal/strconv.uint64pow10") hL
  have h2 : laidMet Tryz.prog [("strconv.ErrSyntax", Rows.laid_strconv_ErrSyntax)] W := laidMetH.filter (fun x => x.1 == "strconv.ErrSyntax") hL
  have h3 : laidMet Tryz.prog [("strconv.ErrRange", Rows.laid_strconv_ErrRange)] W := laidMetH.filter (fun x => x.1 == "strconv.ErrRange") hL
  have t1 := Lib.tabIs_of_head (g := 2) (by kernel_rfl) rfl rfl rfl (by kernel_rfl) (by kernel_rfl) h1
  obtain ⟨a2, _, v2, -, -, -⟩ := laid_sentinel (g := 0) h2 (by kernel_rfl) (by kernel_rfl) Tryz.underlying115 rowES Tryz.underlying224 Tryz.underlying226 rfl rfl Tryz.underlying9 (by kernel_rfl) (by kernel_rfl)
  obtain ⟨a3, _, v3, -, -, -⟩ := laid_sentinel (g := 1) h3 (by kernel_rfl) (by kernel_rfl) Tryz.underlying115 rowES Tryz.underlying224 Tryz.underlying226 rfl rfl Tryz.underlying9 (by kernel_rfl) (by kernel_rfl)
  have g1 : GlobIs W (fun b => b < W.heap.size) 2 (Lib.pow10Tab.map fun z => .lit (.int .u64 z)) := by
    have := globIs_var (g := 2) (cs := Lib.pow10Tab.map fun z => Value.int .u64 z) (by kernel_rfl) t1
    rw [List.map_map] at this
    exact this
  have g2 := globIs_var (g := 0) (cs := [Value.iface 224 (.pointer (some a2))]) (by kernel_rfl) v2
  have g3 := globIs_var (g := 1) (cs := [Value.iface 224 (.pointer (some a3))]) (by kernel_rfl) v3
  obtain ⟨m, g4⟩ := globIs_int (g := 3) (t := 3) (k := .i64) (zero := #[.int .i64 0]) hsh (of_decide_eq_true (by kernel_rfl)) (by kernel_rfl) rfl (by kernel_rfl) (by kernel_rfl) Tryz.underlying3
  refine ⟨[(2, Lib.pow10Tab.map fun z => .lit (.int .u64 z)), (0, [.lit (.iface 224 (.pointer (some a2)))]), (1, [.lit (.iface 224 (.pointer (some a3)))]), (3, [.lit (.int .i64 m)])], ⟨rfl, ⟨_, _, rfl⟩, ⟨_, _, rfl⟩, ⟨_, rfl⟩⟩, fun g cells hg => ?_⟩
  simp only [AM.look] at hg
  split at hg
  · rename_i e; subst e; cases hg; exact g1
  split at hg
  · rename_i e; subst e; cases hg; exact g2
  split at hg
  · rename_i e; subst e; cases hg; exact g3
  split at hg
  · rename_i e; subst e; cases hg; exact g4
  · cases hg
section
variable {H : Type} {enc : TypeId × Value → H} {P : Program} {w : World} {base : Nat} {sp : Nat → Bool} {held : Bool} {fuel : Nat} {t : TypeId} {cs : List Value} {x : DataW H × List MemPlace} {G : Nat → Prop}
theorem len3 {cs : List Value} (h : cs.length = 3) : ∃ a b c, cs = [a, b, c] := by
  match cs, h with
  | [a, b, c], _ => exact ⟨a, b, c, rfl⟩
theorem i64_rng {n : Int} (h : (Lit.int .i64 n).wf = true) : -9223372036854775808 ≤ n ∧ n ≤ 9223372036854775807 := by
  simp [Lit.wf] at h
  have e1 : IntKind.i64.min = -9223372036854775808 := rfl
  have e2 : IntKind.i64.max = 9223372036854775807 := rfl
  omega
theorem dec_fault {n : Nat} {y : DataW H × List MemPlace} (hl : cs.length = 3) (h : DataW.trod enc Tryz.prog w base sp held n 59 cs = some y) :
    ∃ (r : Nat) (a b : Int), r < 256 ∧ a ≤ 9223372036854775807 ∧ b ≤ 9223372036854775807 ∧ Dec w G (flt r a b) cs := by
  obtain ⟨_, m, hf⟩ := dec_field Tryz.underlying59 h
  obtain ⟨c0, c1, c2, rfl⟩ := len3 hl
  obtain ⟨_, h0⟩ := hf 0 _ rfl
  obtain ⟨_, h1⟩ := hf 1 _ rfl
  obtain ⟨_, h2⟩ := hf 2 _ rfl
  obtain ⟨r, d0, w0⟩ := dec_int (G := G) Tryz.underlying5 h0
  obtain ⟨a, d1, w1⟩ := dec_int (G := G) Tryz.underlying3 h1
  obtain ⟨b, d2, w2⟩ := dec_int (G := G) Tryz.underlying3 h2
  have e := u8_rng w0
  obtain ⟨q, rfl⟩ := Int.eq_ofNat_of_zero_le e.1
  exact ⟨q, a, b, by omega, (i64_rng w1).2, (i64_rng w2).2, (d0.app d1).app d2⟩
end
theorem agg_of_ok {W : World} {r : Reach} {base : Nat} {v : Value} (h : Value.okWide Tryz.prog W r base 59 v) : ∃ cs, v = .agg cs := by
  unfold Value.okWide at h
  rw [Tryz.underlying59] at h
  obtain ⟨cs, h1, _⟩ := h
  exact ⟨cs, h1⟩
theorem fault_of {H : Type} {enc : TypeId × Value → H} {W : World} {cs : Array Value} {d : DataW H} {p : List MemPlace} (h : DataW.Trod enc Tryz.prog W 0 (fun _ => true) true 59 (.agg cs) d p) :
    ∃ (r : Nat) (a b : Int), r < 256 ∧ a ≤ 9223372036854775807 ∧ b ≤ 9223372036854775807 ∧ V W (fun b => b < W.heap.size) noNames noAllow (.agg (flt r a b)) (.agg cs) := by
  obtain ⟨fuel, h⟩ := h
  have hl : cs.toList.length = 3 := (dec_field Tryz.underlying59 h).1
  obtain ⟨r, a, b, h1, h2, h3, hd⟩ := dec_fault (G := fun b => b < W.heap.size) hl h
  exact ⟨r, a, b, h1, h2, h3, V.of_dec hd⟩
end Go.Proofs.T
end
