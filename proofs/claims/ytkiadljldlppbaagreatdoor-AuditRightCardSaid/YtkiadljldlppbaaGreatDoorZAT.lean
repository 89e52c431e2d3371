import Derived.Test.YtkiadljldlppbaaGreatDoorZAS
set_option linter.unusedVariables false
set_option linter.unusedSimpArgs false
section
namespace Go.Proofs.T
open Go Go.AM Go.Proofs
set_option maxRecDepth 20000
variable {Γ : List (Nat × List AVal)}
structure Full (s : St) : Prop where
  nt : 3 ≤ s.nt
  ng : 3 ≤ s.ng
  ns : 3 ≤ s.ns
  p0 : 2 ≤ s.nsp 0
  p1 : 2 ≤ s.nsp 1
  p2 : 2 ≤ s.nsp 2
  nk : 2 ≤ s.nk
  nu : 2 ≤ s.nu
def tkS (s : St) (i : Nat) (f : Tk → Tk) : St := { s with tsk := fun j => if j = i then f (s.tsk i) else s.tsk j }
def spS (s : St) (g c : Nat) (f : Sp → Sp) : St := { s with sp := fun a b => if a = g ∧ b = c then f (s.sp g c) else s.sp a b }
def clS (s : St) (i : Nat) (v : Int) : St := { s with clk := fun j => if j = i then v else s.clk j }
def cuS (s : St) (i : Nat) (v : Int) : St := { s with cur := fun j => if j = i then v else s.cur j }
def spoilS (s : St) : Nat → St
  | 0 => { s with cpus := 0 }
  | 1 => { s with cpus := 3 }
  | 2 => { s with ng := 2 }
  | 3 => { s with wt := fun g => if g = 2 then 0 else s.wt g }
  | 4 => { s with par := fun g => if g = 2 then 0 else s.par g }
  | 5 => { s with credit := IntKind.u64.wrap (s.credit + 1) }
  | 6 => { clS s s.nk 1 with nk := s.nk + 1 }
  | 7 => { cuS s s.nu 0 with nu := s.nu + 1 }
  | 8 => { s with ns := 2 }
  | 9 => { s with nsp := fun g => if g = 1 then 1 else s.nsp g }
  | 10 => { spS s 2 (s.nsp 2) (fun _ => ⟨0, 0, 0⟩) with nsp := fun g => if g = 2 then s.nsp 2 + 1 else s.nsp g }
  | 11 => clS s 0 (-1)
  | 12 => clS s 1 281474976710657
  | 13 => clS s 1 (IntKind.i64.wrap (s.clk 1 + 1))
  | 14 => cuS s 0 8
  | 15 => cuS s 1 9
  | 16 => cuS s 1 8
  | 17 => cuS s 0 (-3)
  | 18 => { s with tsk := fun j => if j = 0 then { s.tsk 0 with id := (s.tsk 1).id } else if j = 1 then { s.tsk 1 with id := (s.tsk 0).id } else s.tsk j }
  | 19 => tkS s 1 fun t => { t with id := (s.tsk 0).id }
  | 20 => tkS s 0 fun t => { t with id := 0 }
  | 21 => tkS s 2 fun t => { t with id := 65536 }
  | 22 => tkS s 0 fun t => { t with group := 3 }
  | 23 => tkS s 1 fun t => { t with group := -1 }
  | 24 => tkS s 0 fun t => { t with cpu := 2 }
  | 25 => tkS s 1 fun t => { t with cpu := -1 }
  | 26 => tkS s 0 fun t => { t with mask := 7 }
  | 27 => tkS s 0 fun t => { t with mask := 2 }
  | 28 => tkS s 1 fun t => { t with mask := 0 }
  | 29 => tkS s 0 fun t => { t with r := 5 }
  | 30 => tkS s 1 fun t => { t with weight := 0 }
  | 31 => tkS s 0 fun t => { t with weight := 65537 }
  | 32 => spS s 2 1 fun x => { x with r := 9 }
  | 33 => spS s 0 1 fun x => { x with v := 1 }
  | 34 => spS s 0 0 fun x => { x with r := 1 }
  | 35 => spS s 2 1 fun x => { x with floor := 5 }
  | 36 => spS s 0 0 fun x => { x with floor := 3 }
  | 37 => spS s 1 1 fun x => { x with floor := 1 }
  | 38 => tkS s 0 fun t => { t with v := 18446744073709551615, r := 1 }
  | _ => clS (spS s 1 0 fun x => { x with floor := 9 }) 0 281474976710656
theorem oR_cons {s : St} {k n : Nat} : oR s (k + 2) (n + 3) = [.sl (k + 5) 0 (s.nsp 0)] :: [.sl (k + 6) 0 (s.nsp 1)] :: [.sl (k + 7) 0 (s.nsp 2)] :: (List.range (n + 3 - 3)).map fun j => ssf s (3 + j) := by
  rw [show n + 3 - 3 = n by omega]
  induction n with
  | zero => rfl
  | succ n ih =>
    rw [show n + 1 + 3 = (n + 3) + 1 by omega, oR_succ, ih, range_snoc, if_neg (by omega), Nat.add_comm n 3]
    rfl
theorem getD_setL {R : List (List AVal)} {i q : Nat} {r : List AVal} : (R.set i r).getD q [] = if i = q ∧ i < R.length then r else R.getD q [] := by
  rw [List.getD_eq_getElem?_getD, List.getD_eq_getElem?_getD, List.getElem?_set]
  by_cases e : i = q
  · subst e
    by_cases h : i < R.length
    · rw [if_pos rfl, if_pos h, if_pos ⟨rfl, h⟩]; rfl
    · rw [if_pos rfl, if_neg h, if_neg (fun x => h x.2), List.getElem?_eq_none (by omega)]
  · rw [if_neg e, if_neg (fun x => e x.1)]
theorem getD_appL {R : List (List AVal)} {q : Nat} {r : List AVal} : (R ++ [r]).getD q [] = if q = R.length then r else R.getD q [] := by
  rw [List.getD_eq_getElem?_getD, List.getD_eq_getElem?_getD, List.getElem?_append]
  by_cases e : q = R.length
  · subst e
    rw [if_neg (Nat.lt_irrefl _), if_pos rfl, Nat.sub_self]; rfl
  · rw [if_neg e]
    split
    · rfl
    · rw [List.getElem?_eq_none (show R.length ≤ q by omega), List.getElem?_eq_none (by simp; omega)]
theorem rngD {n q : Nat} {f : Nat → List AVal} : ((List.range n).map f).getD q [] = if q < n then f q else [] := by
  by_cases h : q < n <;> simp [List.getD_eq_getElem?_getD, h]
theorem vR {s n : Nat} {R : List (List AVal)} {f : Nat → List AVal} (h : ∀ q, q < n → R.getD q [] = f q) : VLe (.rd s n (fun q => R.getD q [])) (.rd s n f) := VLe.rd h
theorem VLe.rds {s n : Nat} {f g : Nat → List AVal} (h : ∀ i, i < n → VLes (f i) (g i)) : VLe (.rd s n f) (.rd s n g) := fun w G ρ A cv hv => by
  cases hv with
  | rd0 => exact .rd0
  | rd gg a1 a2 a3 a4 a5 a6 =>
    have key : ∀ i j v, i < n → (g i)[j]? = some v → ∃ u, (f i)[j]? = some u ∧ VLe u v := fun i j v hi hj => by
      obtain ⟨h1, h2⟩ := (h i hi).spec
      have hlt : j < (f i).length := by have := (List.getElem?_eq_some_iff.1 hj).1; omega
      exact ⟨_, List.getElem?_eq_getElem hlt, h2 j _ v (List.getElem?_eq_getElem hlt) hj⟩
    refine .rd gg a1 a2 a3 (fun i hi => by rw [← ((h i hi).spec).1]; exact a4 i hi) (fun i j v hi hj => ?_) (fun i j v hi hj => ?_)
    · obtain ⟨u, hu, _⟩ := key i j v hi hj; exact a5 i j u hi hu
    · obtain ⟨u, hu, hle⟩ := key i j v hi hj; exact hle _ _ _ _ _ (a6 i j u hi hu)
theorem vS_set {s s' : St} {g i : Nat} {R : List (List AVal)} {x : Sp} (eR : R = sRs s g) (hi : i < s.nsp g) (hn : s'.nsp g = s.nsp g) (h : ∀ c, s'.sp g c = if c = i then x else s.sp g c) :
    VLe (.rd 3 (s.nsp g) (fun q => (R.set i [.lit (.int .u64 x.v), .lit (.int .u32 x.r), .lit (.int .u64 x.floor)]).getD q [])) (.rd 3 (s'.nsp g) (sf s' g)) := by
  rw [hn]
  refine vR fun q hq => ?_
  rw [getD_setL, eR, sRs, rngD, List.length_map, List.length_range, if_pos hq]
  simp only [sf, h]
  by_cases e : q = i
  · rw [if_pos ⟨e.symm, hi⟩, if_pos e]
  · rw [if_neg (fun x => e x.1.symm), if_neg e]
theorem vS_app {s s' : St} {g : Nat} {R : List (List AVal)} {x : Sp} (eR : R = sRs s g) (hn : s'.nsp g = s.nsp g + 1) (h : ∀ c, s'.sp g c = if c = s.nsp g then x else s.sp g c) :
    VLe (.rd 3 (s.nsp g + 1) (fun q => (R ++ [[AVal.lit (.int .u64 x.v), AVal.lit (.int .u32 x.r), AVal.lit (.int .u64 x.floor)]]).getD q [])) (.rd 3 (s'.nsp g) (sf s' g)) := by
  rw [hn]
  refine vR fun q hq => ?_
  rw [getD_appL, eR, sRs, rngD, List.length_map, List.length_range]
  simp only [sf, h]
  by_cases e : q = s.nsp g
  · rw [if_pos e, if_pos e]
  · rw [if_neg e, if_neg e, if_pos (by omega)]
theorem vT_two {s s' : St} {R : List (List AVal)} {x y : Tk} (eR : R = tkR' s) (h2 : 2 < s.nt) (hn : s'.nt = s.nt) (h : ∀ j, s'.tsk j = if j = 0 then x else if j = 1 then y else s.tsk j) :
    VLe (.rd 8 s.nt (fun q => ((R.set 0 (tkc x)).set 1 (tkc y)).getD q [])) (.rd 8 s'.nt (tf s')) := by
  rw [hn]
  refine vR fun q hq => ?_
  rw [getD_setL, getD_setL, List.length_set, eR, tkR', rngD, List.length_map, List.length_range, if_pos hq]
  simp only [tf, h, tkc]
  by_cases e : q = 0
  · subst e
    rw [if_neg (fun x => by omega), if_pos ⟨rfl, by omega⟩, if_pos rfl]
  · by_cases e1 : q = 1
    · subst e1
      rw [if_pos ⟨rfl, by omega⟩, if_neg e, if_pos rfl]
    · rw [if_neg (fun x => e1 x.1.symm), if_neg (fun x => e x.1.symm), if_neg e, if_neg e1]
theorem spotsV {s' : St} {OT R0 R1 R2 : List (List AVal)} {n n0 n1 n2 : Nat} (hn : n = s'.ns) (h0 : VLe (.rd 3 n0 (fun q => R0.getD q [])) (.rd 3 (s'.nsp 0) (sf s' 0))) (h1 : VLe (.rd 3 n1 (fun q => R1.getD q [])) (.rd 3 (s'.nsp 1) (sf s' 1)))
    (h2 : 2 < n → VLe (.rd 3 n2 (fun q => R2.getD q [])) (.rd 3 (s'.nsp 2) (sf s' 2))) (hT : ∀ q, q + 3 < n → OT.getD q [] = ssf s' (q + 3)) :
    VLe (.rd 1 n (fun q => ([.rd 3 n0 (fun q => R0.getD q [])] :: [.rd 3 n1 (fun q => R1.getD q [])] :: [.rd 3 n2 (fun q => R2.getD q [])] :: OT).getD q [])) (.rd 1 s'.ns (ssf s')) := by
  subst hn
  refine VLe.rds fun q hq => ?_
  match q, hq with
  | 0, _ => exact .cons h0 .nil
  | 1, _ => exact .cons h1 .nil
  | 2, h => exact .cons (h2 h) .nil
  | q + 3, h =>
    show VLes (OT.getD q []) _
    rw [hT q h]
    exact VLes.refl _
theorem ssf_congr {s s' : St} {g : Nat} (h1 : s'.nsp g = s.nsp g) (h2 : ∀ c, s'.sp g c = s.sp g c) : ssf s g = ssf s' g := by
  have : sf s g = sf s' g := funext fun c => by simp only [sf, h2]
  simp only [ssf, h1, this]
theorem W_fz {P : Program} {Γ : List (Nat × List AVal)} {nt kb : Nat} {Q : AQ} {k : Nat} {fr : Fr} {H : Heap} {c : Code} {B : Blk} (id : Nat) (h : AM.W P Γ nt kb c Q k (frzF id B fr) (frzH id B H))
    (hH : AM.look H id = some B := by (simp -dsimp -implicitDefEqProofs only [go_sem, uU, eq_self, ↓reduceIte]; rfl)) (hp : B.pure = true := by rfl) : AM.W P Γ nt kb c Q k fr H := W_mv (Mv.freeze id hH hp) h
theorem W_pz {P : Program} {Γ : List (Nat × List AVal)} {nt kb : Nat} {Q : AQ} {k : Nat} {fr : Fr} {H : Heap} {c : Code} {s : Nat} {p : Bool} {rows : List (List AVal)} (id : Nat) (h : AM.W P Γ nt kb c Q k fr ((id, ⟨s, true, rows⟩) :: del H id))
    (hH : AM.look H id = some ⟨s, p, rows⟩ := by (simp -dsimp -implicitDefEqProofs only [go_sem, uU, eq_self, ↓reduceIte]; rfl)) (hc : (rows.all fun row => row.all clean) = true := by (simp -dsimp -implicitDefEqProofs only [go_sem, uU, eq_self, ↓reduceIte])) : AM.W P Γ nt kb c Q k fr H := W_mv (Mv.pure id hH hc) h
theorem lsN {α : Type} {l : List α} {i : Nat} {a : α} : (l.set i a).length = l.length := List.length_set ..
theorem laN {α : Type} {l m : List α} : (l ++ m).length = l.length + m.length := List.length_append ..
theorem l1N {α : Type} {a : α} : [a].length = 1 := rfl
set_option maxHeartbeats 16000000 in
theorem spoiltF (s : St) (hs : s.Small) (hF : Full s) (hp : ∀ g, g < s.ns → 0 < s.nsp g) (w : Nat) (hw : w < 40) :
    AM.Pure Tryz.prog Γ 23 [.agg s.cells, .lit (.int .i64 (w : Int))] (.agg (spoilS s w).cells) := by
  obtain ⟨f1, f2, f3, f4, f5, f6, f7, f8⟩ := hF
  obtain ⟨hng, hnk, hnu, hnt, hns, hnsp⟩ := id hs
  obtain ⟨RV, eRV⟩ : ∃ v, v = AVal.agg (spoilS s w).cells := ⟨_, rfl⟩
  rw [← eRV]
  refine Pure_at Tryz.func23 rfl 340 rfl (Nat.le_of_ble_eq_true rfl) (by rw [eRV]; rfl) fun k => ?_
  have hcp := copyStateA s hs f3 hp (by omega) (by omega) (by omega) (by omega) (k + 2) (Γ := Γ)
  simp only [Nat.add_assoc, Nat.reduceAdd] at hcp
  obtain ⟨OT, eOT⟩ : ∃ l, l = (List.range (s.ns - 3)).map fun j => ssf s (3 + j) := ⟨_, rfl⟩
  have eO : oR s (k + 2) s.ns = [.sl (k + 5) 0 (s.nsp 0)] :: [.sl (k + 6) 0 (s.nsp 1)] :: [.sl (k + 7) 0 (s.nsp 2)] :: OT := by
    rw [eOT, show s.ns = (s.ns - 3) + 3 by omega]
    exact oR_cons
  have hO1 : OT.all (fun row => row.all AM.one) = true := by rw [eOT]; exact all_rows fun _ => rfl
  have hOl : OT.length + 3 = s.ns := by rw [eOT]; simp; omega
  have hO3 : s.ns ≤ OT.length + 3 := by omega
  have hO2 : 2 ≤ OT.length + 3 := by omega
  have hG2 : 2 ≤ s.ng := by omega
  have hp1 : 1 ≤ s.nsp 1 := by omega
  have hOT : ∀ q, q + 3 < s.ns → OT.getD q [] = ssf s (q + 3) := fun q h => by
    rw [eOT, rngD, if_pos (by omega), Nat.add_comm]
  have hOz : ∀ (id : Nat) (B : Blk), OT.map (fun row => row.map (frz0 id B)) = OT := fun _ _ => by rw [eOT]; exact frz_rows (all_clean fun _ => rfl)
  have hOc : OT.all (fun row => row.all clean) = true := by rw [eOT]; exact all_clean fun _ => rfl
  rw [eO] at hcp
  obtain ⟨GR, eG⟩ : ∃ l, l = grR s := ⟨_, rfl⟩
  obtain ⟨KR, eK⟩ : ∃ l, l = klR' s := ⟨_, rfl⟩
  obtain ⟨UR, eU⟩ : ∃ l, l = ulR' s := ⟨_, rfl⟩
  obtain ⟨TR, eT⟩ : ∃ l, l = tkR' s := ⟨_, rfl⟩
  obtain ⟨S0, eS0⟩ : ∃ l, l = sRs s 0 := ⟨_, rfl⟩
  obtain ⟨S1, eS1⟩ : ∃ l, l = sRs s 1 := ⟨_, rfl⟩
  obtain ⟨S2, eS2⟩ : ∃ l, l = sRs s 2 := ⟨_, rfl⟩
  rw [← eG, ← eK, ← eU, ← eT, ← eS0, ← eS1, ← eS2] at hcp
  have lG : GR.length = s.ng := by rw [eG]; simp [grR]
  have lK : KR.length = s.nk := by rw [eK]; simp [klR']
  have lU : UR.length = s.nu := by rw [eU]; simp [ulR']
  have lTR : TR.length = s.nt := by rw [eT]; simp [tkR']
  have l0 : S0.length = s.nsp 0 := by rw [eS0]; simp [sRs]
  have l1 : S1.length = s.nsp 1 := by rw [eS1]; simp [sRs]
  have l2 : S2.length = s.nsp 2 := by rw [eS2]; simp [sRs]
  have kp : Kp [0,1,2,4,5,6,61,69,79,83,87,95,102,109,117,124,131,137,147,159,164,169,177,182,187,192,197,213,222,227,233,238,243,248,253,258,263,268,273,278,283,291,299,307,315,323,331] (fun i => i - k) := kpI
  refine wl ?_; refine zq1 ⟨⟨⟨?_⟩⟩⟩
  refine cl [.gen (.agg [.lit (.int .i64 s.cpus), .lit (.int .u64 s.credit), .sl (k + 10) 0 s.ng, .sl (k + 11) 0 s.nk, .sl (k + 12) 0 s.nu, .sl (k + 13) 0 s.nt, .sl (k + 4) 0 s.ns]) (k + 14) [] [(k + 13, ⟨8, true, TR⟩), (k + 12, ⟨1, true, UR⟩), (k + 11, ⟨1, true, KR⟩), (k + 10, ⟨2, true, GR⟩), (k + 7, ⟨3, true, S2⟩), (k + 6, ⟨3, true, S1⟩), (k + 5, ⟨3, true, S0⟩), (k + 4, ⟨1, false, [.sl (k + 5) 0 (s.nsp 0)] :: [.sl (k + 6) 0 (s.nsp 1)] :: [.sl (k + 7) 0 (s.nsp 2)] :: OT⟩)]] ?_; refine zq2 ⟨⟨⟨?_⟩⟩⟩ ⟨⟨⟨?_⟩⟩⟩
  all_goals (try exact hcp)
  have q2 := hnsp 2 (by omega)
  have t00 : ∀ r, (TR.set 0 r)[0]? = some r := fun r => List.getElem?_set_self (by omega)
  have t01 : ∀ r, (TR.set 0 r)[1]? = some (tf s 1) := fun r => by rw [List.getElem?_set_ne (by omega)]; rw [eT]; simp [tkR', show 1 < s.nt by omega]
  have g2 : GR[2]? = some [.lit (.int .i64 (s.par 2)), .lit (.int .i64 (s.wt 2))] := by rw [eG]; simp [grR, gf, show 2 < s.ng by omega]
  have k0 : KR[0]? = some [.lit (.int .i64 (s.clk 0))] := by rw [eK]; simp [klR', kf, show 0 < s.nk by omega]
  have k1 : KR[1]? = some [.lit (.int .i64 (s.clk 1))] := by rw [eK]; simp [klR', kf, show 1 < s.nk by omega]
  have u0 : UR[0]? = some [.lit (.int .i64 (s.cur 0))] := by rw [eU]; simp [ulR', uf, show 0 < s.nu by omega]
  have u1 : UR[1]? = some [.lit (.int .i64 (s.cur 1))] := by rw [eU]; simp [ulR', uf, show 1 < s.nu by omega]
  have t0 : TR[0]? = some (tf s 0) := by rw [eT]; simp [tkR', show 0 < s.nt by omega]
  have t1 : TR[1]? = some (tf s 1) := by rw [eT]; simp [tkR', show 1 < s.nt by omega]
  have t2 : TR[2]? = some (tf s 2) := by rw [eT]; simp [tkR', show 2 < s.nt by omega]
  have a0 : S0[0]? = some (sf s 0 0) := by rw [eS0]; simp [sRs, show 0 < s.nsp 0 by omega]
  have a1 : S0[1]? = some (sf s 0 1) := by rw [eS0]; simp [sRs, show 1 < s.nsp 0 by omega]
  have b0 : S1[0]? = some (sf s 1 0) := by rw [eS1]; simp [sRs, show 0 < s.nsp 1 by omega]
  have b1 : S1[1]? = some (sf s 1 1) := by rw [eS1]; simp [sRs, show 1 < s.nsp 1 by omega]
  have c1 : S2[1]? = some (sf s 2 1) := by rw [eS2]; simp [sRs, show 1 < s.nsp 2 by omega]
  have oG : (GR.all fun row => row.all AM.one) = true := by rw [eG]; exact rows_one_of _ _ fun _ => rfl
  have oK : (KR.all fun row => row.all AM.one) = true := by rw [eK]; exact rows_one_of _ _ fun _ => rfl
  have oU : (UR.all fun row => row.all AM.one) = true := by rw [eU]; exact rows_one_of _ _ fun _ => rfl
  have oT : (TR.all fun row => row.all AM.one) = true := by rw [eT]; exact rows_one_of _ _ fun _ => rfl
  have o0 : (S0.all fun row => row.all AM.one) = true := by rw [eS0]; exact rows_one_of _ _ fun _ => rfl
  have o1 : (S1.all fun row => row.all AM.one) = true := by rw [eS1]; exact rows_one_of _ _ fun _ => rfl
  have o2 : (S2.all fun row => row.all AM.one) = true := by rw [eS2]; exact rows_one_of _ _ fun _ => rfl
  (repeat' (first | (refine C_seq rfl ?_) | (refine C_block rfl ?_) | (refine C_skip rfl ?_; (try simp -dsimp -implicitDefEqProofs only [go_sem, lG, lK, lU, lTR, l0, l1, l2, g2, k0, k1, u0, u1, t0, t1, t2, a0, a1, b0, b1, c1, oG, oK, oU, oT, o0, o1, o2, hO1, tf, sf, t00, t01, List.set_set, eq_self, ↓reduceIte])) | (refine C_exit rfl ?_; (try simp -dsimp -implicitDefEqProofs only [go_sem, lG, lK, lU, lTR, l0, l1, l2, g2, k0, k1, u0, u1, t0, t1, t2, a0, a1, b0, b1, c1, oG, oK, oU, oT, o0, o1, o2, hO1, tf, sf, t00, t01, List.set_set, eq_self, ↓reduceIte])) | (refine C_cond rfl _ rfl (fun ht => ?_) (fun ht => ?_) <;> (try (simp only [nf] at ht)) <;> (try (exfalso; omega))) | ((first | (refine S_reg0 rfl [0,1,2,4,5,6,61,69,79,83,87,95,102,109,117,124,131,137,147,159,164,169,177,182,187,192,197,213,222,227,233,238,243,248,253,258,263,268,273,278,283,291,299,307,315,323,331] rfl rfl (fun K hK => ?_)) | (refine S_drw0 rfl [0,1,2,4,5,6,61,69,79,83,87,95,102,109,117,124,131,137,147,159,164,169,177,182,187,192,197,213,222,227,233,238,243,248,253,258,263,268,273,278,283,291,299,307,315,323,331] rfl (by kernel_rfl) rfl (fun K hK => ?_))); simp -dsimp -implicitDefEqProofs only [go_sem, lG, lK, lU, lTR, l0, l1, l2, g2, k0, k1, u0, u1, t0, t1, t2, a0, a1, b0, b1, c1, oG, oK, oU, oT, o0, o1, o2, hO1, tf, sf, t00, t01, List.set_set, eq_self, ↓reduceIte]; (repeat' (first | (refine And.intro ?_ ?_) | (refine gs_both (fun hb => ?_) (fun hb => ?_) <;> (have hg := hb; (try simp only [nfb] at hg); simp -dsimp -implicitDefEqProofs only [go_sem, lG, lK, lU, lTR, l0, l1, l2, g2, k0, k1, u0, u1, t0, t1, t2, a0, a1, b0, b1, c1, oG, oK, oU, oT, o0, o1, o2, hO1, tf, sf, t00, t01, List.set_set, hb, hg, eq_self, ↓reduceIte]; clear hb; (try simp only [nfe] at hg))))); any_goals ((first | (refine hK _ _ _ _ (fun hx => ?_)) | (refine hK _ _ _ _ (drawOk_names (fun i => i - k) (by simp only [List.map_cons, List.map_nil, shG, lG, lK, lU, lTR, l0, l1, l2, g2, k0, k1, u0, u1, t0, t1, t2, a0, a1, b0, b1, c1, oG, oK, oU, oT, o0, o1, o2, hO1, tf, sf, t00, t01, List.set_set, ↓reduceIte, Nat.add_sub_cancel_left, Nat.sub_self]; rfl) (by decide +kernel) (by simp -dsimp -implicitDefEqProofs only [go_sem, lG, lK, lU, lTR, l0, l1, l2, g2, k0, k1, u0, u1, t0, t1, t2, a0, a1, b0, b1, c1, oG, oK, oU, oT, o0, o1, o2, hO1, tf, sf, t00, t01, List.set_set, eq_self, ↓reduceIte])) (fun hx => ?_)) | (refine hK _ _ _ _ (drawOk_of (by kernel_rfl) (by simp -dsimp -implicitDefEqProofs only [go_sem, lG, lK, lU, lTR, l0, l1, l2, g2, k0, k1, u0, u1, t0, t1, t2, a0, a1, b0, b1, c1, oG, oK, oU, oT, o0, o1, o2, hO1, tf, sf, t00, t01, List.set_set, eq_self, ↓reduceIte])) (fun hx => ?_))); clear hx hK; simp -dsimp -implicitDefEqProofs only [go_sem, lG, lK, lU, lTR, l0, l1, l2, g2, k0, k1, u0, u1, t0, t1, t2, a0, a1, b0, b1, c1, oG, oK, oU, oT, o0, o1, o2, hO1, tf, sf, t00, t01, List.set_set, eq_self, ↓reduceIte]; (try simp (disch := omega) only [wrap_i64, wrap_u64, wrap_u32, wrap_u8]))) | omega))
  all_goals (have uU := zA @lG (zA @lK (zA @lU (zA @lTR (zA @l0 (zA @l1 (zA @l2 (zA @frzF.eq_1 (zA @frz_app (zA @hOz (zA @hOc (zA @hO3 (zA @hO2 (zA @hG2 (zA @hp1 (zA @lsN (zA @laN (zA @l1N @Nat.le_refl))))))))))))))))); skip)
  all_goals (try (refine W_fz (k + 15) ?_; refine rR ?_; apply zN))
  all_goals (try (refine W_fz (k + 5) ?_; refine rR ?_; apply zN))
  all_goals (try (refine W_fz (k + 6) ?_; refine rR ?_; apply zN))
  all_goals (try (refine W_fz (k + 7) ?_; refine rR ?_; apply zN))
  all_goals (refine W_pz (k + 4) ?_; refine rR ?_; apply zN)
  all_goals (try (refine W_fz (k + 4) ?_; refine rR ?_; apply zN))
  all_goals (try (refine W_fz (k + 10) ?_; refine rR ?_; apply zN))
  all_goals (try (refine W_fz (k + 11) ?_; refine rR ?_; apply zN))
  all_goals (try (refine W_fz (k + 12) ?_; refine rR ?_; apply zN))
  all_goals (try (refine W_fz (k + 13) ?_; refine rR ?_; apply zN))
  all_goals (refine C_ret rfl ?_; refine rR ?_; apply zN)
  all_goals (refine ⟨_, rfl, ?_⟩)
  all_goals (rw [eRV])
  all_goals (first | (have e : w = 0 := (by omega); subst e) | (have e : w = 1 := (by omega); subst e) | (have e : w = 2 := (by omega); subst e) | (have e : w = 3 := (by omega); subst e) | (have e : w = 4 := (by omega); subst e) | (have e : w = 5 := (by omega); subst e) | (have e : w = 6 := (by omega); subst e) | (have e : w = 7 := (by omega); subst e) | (have e : w = 8 := (by omega); subst e) | (have e : w = 9 := (by omega); subst e) | (have e : w = 10 := (by omega); subst e) | (have e : w = 11 := (by omega); subst e) | (have e : w = 12 := (by omega); subst e) | (have e : w = 13 := (by omega); subst e) | (have e : w = 14 := (by omega); subst e) | (have e : w = 15 := (by omega); subst e) | (have e : w = 16 := (by omega); subst e) | (have e : w = 17 := (by omega); subst e) | (have e : w = 18 := (by omega); subst e) | (have e : w = 19 := (by omega); subst e) | (have e : w = 20 := (by omega); subst e) | (have e : w = 21 := (by omega); subst e) | (have e : w = 22 := (by omega); subst e) | (have e : w = 23 := (by omega); subst e) | (have e : w = 24 := (by omega); subst e) | (have e : w = 25 := (by omega); subst e) | (have e : w = 26 := (by omega); subst e) | (have e : w = 27 := (by omega); subst e) | (have e : w = 28 := (by omega); subst e) | (have e : w = 29 := (by omega); subst e) | (have e : w = 30 := (by omega); subst e) | (have e : w = 31 := (by omega); subst e) | (have e : w = 32 := (by omega); subst e) | (have e : w = 33 := (by omega); subst e) | (have e : w = 34 := (by omega); subst e) | (have e : w = 35 := (by omega); subst e) | (have e : w = 36 := (by omega); subst e) | (have e : w = 37 := (by omega); subst e) | (have e : w = 38 := (by omega); subst e) | (have e : w = 39 := (by omega); subst e))
  all_goals (refine VLe.aggs (.cons ?_ (.cons ?_ (.cons ?_ (.cons ?_ (.cons ?_ (.cons ?_ (.cons ?_ .nil))))))))
  all_goals (first | exact VLe.refl _ | skip)
  all_goals (try (refine spotsV rfl ?_ ?_ (fun h => ?_) ?_))
  all_goals (try exact VLe.refl _)
  all_goals (first | (intro q hq; (try simp only [spoilS, tkS, spS, clS, cuS] at hq); first | (exfalso; omega) | (rw [hOT q (by omega)]; have e0 : ¬ q + 3 = 0 := (by omega); have e1 : ¬ q + 3 = 1 := (by omega); have e2 : ¬ q + 3 = 2 := (by omega); exact ssf_congr (by simp only [spoilS, tkS, spS, clS, cuS, e0, e1, e2, if_false]) (fun c => by simp only [spoilS, tkS, spS, clS, cuS, e0, e1, e2, false_and, if_false]))) | (refine vR fun q hq => ?_; simp only [getD_setL, getD_appL, eG, eK, eU, eT, eS0, eS1, eS2, grR, klR', ulR', tkR', sRs, rngD, List.length_map, List.length_range]; simp only [spoilS, tkS, spS, clS, cuS] at hq ⊢; simp only [gf, kf, uf, tf, sf]; (repeat' split) <;> first | rfl | (exfalso; omega) | (rename_i h1 h2; subst h2; rfl) | (rename_i h1 h2; obtain ⟨rfl, _⟩ := h1; rfl)) | skip)
  all_goals (first | exact vS_app (x := ⟨0, 0, 0⟩) eS2 rfl (fun c => by simp [spoilS, spS]) | exact vT_two (x := { s.tsk 0 with id := (s.tsk 1).id }) (y := { s.tsk 1 with id := (s.tsk 0).id }) eT (by omega) rfl (fun j => rfl) | exact vS_set (x := ⟨(s.sp 2 1).v, 9, (s.sp 2 1).floor⟩) eS2 (by omega) rfl (fun c => by simp [spoilS, spS]) | exact vS_set (x := ⟨1, (s.sp 0 1).r, (s.sp 0 1).floor⟩) eS0 (by omega) rfl (fun c => by simp [spoilS, spS]) | exact vS_set (x := ⟨(s.sp 0 0).v, 1, (s.sp 0 0).floor⟩) eS0 (by omega) rfl (fun c => by simp [spoilS, spS]) | exact vS_set (x := ⟨(s.sp 2 1).v, (s.sp 2 1).r, 5⟩) eS2 (by omega) rfl (fun c => by simp [spoilS, spS]) | exact vS_set (x := ⟨(s.sp 0 0).v, (s.sp 0 0).r, 3⟩) eS0 (by omega) rfl (fun c => by simp [spoilS, spS]) | exact vS_set (x := ⟨(s.sp 1 1).v, (s.sp 1 1).r, 1⟩) eS1 (by omega) rfl (fun c => by simp [spoilS, spS]) | exact vS_set (x := ⟨(s.sp 1 0).v, (s.sp 1 0).r, 9⟩) eS1 (by omega) rfl (fun c => by simp [spoilS, spS, clS]))
end Go.Proofs.T
end
section
namespace Go.Proofs.T
open Go Go.AM Go.Proofs
set_option maxRecDepth 20000
variable {Γ : List (Nat × List AVal)}
set_option maxHeartbeats 8000000 in
theorem spoiltN (s : St) (hs : s.Small) (hF : ¬ Full s) (w : Nat) (hw : w < 40) :
    AM.Pure Tryz.prog Γ 23 [.agg s.cells, .lit (.int .i64 (w : Int))] (.agg s.cells) := by
  have hF' : ¬ (3 ≤ s.nt ∧ 3 ≤ s.ng ∧ 3 ≤ s.ns ∧ 2 ≤ s.nsp 0 ∧ 2 ≤ s.nsp 1 ∧ 2 ≤ s.nsp 2 ∧ 2 ≤ s.nk ∧ 2 ≤ s.nu) := fun h => hF ⟨h.1, h.2.1, h.2.2.1, h.2.2.2.1, h.2.2.2.2.1, h.2.2.2.2.2.1, h.2.2.2.2.2.2.1, h.2.2.2.2.2.2.2⟩
  have hco := copyState s hs (Γ := Γ)
  refine Pure_at Tryz.func23 rfl 340 rfl (Nat.le_of_ble_eq_true rfl) rfl fun k => ?_
  have kp : Kp [0,1,2,4,5,6,61,69,79,83,87,95,102,109,117,124,131,137,147,159,164,169,177,182,187,192,197,213,222,227,233,238,243,248,253,258,263,268,273,278,283,291,299,307,315,323,331] (fun i => i - k) := kpI
  refine wl ?_; refine zq1 ⟨⟨⟨?_⟩⟩⟩
  refine cl [.ret (.agg s.cells)] ?_; refine zq2 ⟨⟨⟨?_⟩⟩⟩ ⟨⟨⟨?_⟩⟩⟩
  all_goals (try exact hco)
  (repeat' (first | (refine C_seq rfl ?_) | (refine C_block rfl ?_) | (refine C_skip rfl ?_; (try simp -dsimp -implicitDefEqProofs only [go_sem, eq_self, ↓reduceIte])) | (refine C_exit rfl ?_; (try simp -dsimp -implicitDefEqProofs only [go_sem, eq_self, ↓reduceIte])) | (refine C_cond rfl _ rfl (fun ht => ?_) (fun ht => ?_) <;> (try (simp only [nf] at ht)) <;> (try (exfalso; omega))) | ((first | (refine S_reg0 rfl [0,1,2,4,5,6,61,69,79,83,87,95,102,109,117,124,131,137,147,159,164,169,177,182,187,192,197,213,222,227,233,238,243,248,253,258,263,268,273,278,283,291,299,307,315,323,331] rfl rfl (fun K hK => ?_)) | (refine S_drw0 rfl [0,1,2,4,5,6,61,69,79,83,87,95,102,109,117,124,131,137,147,159,164,169,177,182,187,192,197,213,222,227,233,238,243,248,253,258,263,268,273,278,283,291,299,307,315,323,331] rfl (by kernel_rfl) rfl (fun K hK => ?_))); simp -dsimp -implicitDefEqProofs only [go_sem, eq_self, ↓reduceIte]; (repeat' (first | (refine And.intro ?_ ?_) | (refine gs_both (fun hb => ?_) (fun hb => ?_) <;> (have hg := hb; (try simp only [nfb] at hg); simp -dsimp -implicitDefEqProofs only [go_sem, hb, hg, eq_self, ↓reduceIte]; clear hb; (try simp only [nfe] at hg))))); any_goals ((first | (refine hK _ _ _ _ (fun hx => ?_)) | (refine hK _ _ _ _ (drawA (fun i => i - k)) (fun hx => ?_)) | (refine hK _ _ _ _ drawB (fun hx => ?_))); clear hx hK; simp -dsimp -implicitDefEqProofs only [go_sem, eq_self, ↓reduceIte]; (try simp (disch := omega) only [wrap_i64, wrap_u64, wrap_u32, wrap_u8]))) | omega))
  all_goals (refine C_ret rfl ?_; (refine rR ?_; apply zN))
  all_goals exact ⟨_, rfl, VLe.refl _⟩
def toL (s : St) : LSt := ⟨s.cpus, s.credit, (List.range s.ng).map fun g => (s.par g, s.wt g), (List.range s.nk).map s.clk, (List.range s.nu).map s.cur, (List.range s.nt).map s.tsk, (List.range s.ns).map fun g => (List.range (s.nsp g)).map (s.sp g)⟩
theorem getD_rng {α : Type} {n i : Nat} {f : Nat → α} {d : α} (h : i < n) : ((List.range n).map f).getD i d = f i := by simp [List.getD_eq_getElem?_getD, h]
theorem toL_le (s : St) : VLe (.agg s.cells) (.agg (toL s).st.cells) := by
  have e1 : (toL s).st.ng = s.ng := by simp [toL, LSt.st]
  have e2 : (toL s).st.nk = s.nk := by simp [toL, LSt.st]
  have e3 : (toL s).st.nu = s.nu := by simp [toL, LSt.st]
  have e4 : (toL s).st.nt = s.nt := by simp [toL, LSt.st]
  have e5 : (toL s).st.ns = s.ns := by simp [toL, LSt.st]
  refine VLe.aggs (.cons (VLe.refl _) (.cons (VLe.refl _) (.cons ?_ (.cons ?_ (.cons ?_ (.cons ?_ (.cons ?_ .nil)))))))
  · rw [e1]
    refine VLe.rd fun i hi => ?_
    simp only [gf, toL, LSt.st]
    rw [getD_rng hi]
  · rw [e2]
    refine VLe.rd fun i hi => ?_
    simp only [kf, toL, LSt.st]
    rw [getD_rng hi]
  · rw [e3]
    refine VLe.rd fun i hi => ?_
    simp only [uf, toL, LSt.st]
    rw [getD_rng hi]
  · rw [e4]
    refine VLe.rd fun i hi => ?_
    simp only [tf, toL, LSt.st]
    rw [getD_rng hi]
  · rw [e5]
    refine VLe.rds fun i hi => .cons ?_ .nil
    have e6 : (toL s).st.nsp i = s.nsp i := by
      show (((toL s).sl.getD i []).length) = _
      simp only [toL]
      rw [getD_rng hi]; simp
    rw [e6]
    refine VLe.rd fun c hc => ?_
    have e7 : (toL s).st.sp i c = s.sp i c := by
      show ((toL s).sl.getD i []).getD c default = _
      simp only [toL]
      rw [getD_rng hi, getD_rng hc]
    simp only [sf, e7]
structure PreS (s : St) (b : Nat) : Prop where
  ng : s.ng ≤ 6
  nk : s.nk ≤ 4 + b
  nu : s.nu ≤ 4 + b
  nt : s.nt ≤ 100
  ns : s.ns ≤ 6
  p0 : ∀ g, g < s.ns → 0 < s.nsp g
  p1 : ∀ g, g < s.ns → s.nsp g ≤ 4 + b
  c0 : 0 ≤ s.credit
  k : Kinds s
  tv : ∀ i, 0 ≤ (s.tsk i).v
  f0 : ∀ g c, 0 ≤ (s.sp g c).floor
  f1 : ∀ g c, (s.sp g c).floor ≤ 18446744073709551615
theorem PreS.small {s : St} {b : Nat} (h : PreS s b) (hb : b ≤ 8) : s.Small := ⟨by have := h.ng; omega, by have := h.nk; omega, by have := h.nu; omega, by have := h.nt; omega, by have := h.ns; omega, fun g hg => by have := h.p1 g hg; omega⟩
theorem PreS.pre {s : St} {b : Nat} (h : PreS s b) (hb : b ≤ 8) : PreOk s := ⟨h.small hb, by have := h.ns; omega, fun g hg => by have := h.p1 g hg; omega⟩
def TkR (t : Tk) : Prop := 0 ≤ t.mask ∧ t.mask < 18446744073709551616 ∧ 0 ≤ t.v ∧ t.v ≤ 18446744073709551615 ∧ 0 ≤ t.r
def SpR (x : Sp) : Prop := 0 ≤ x.v ∧ x.v ≤ 18446744073709551615 ∧ 0 ≤ x.r ∧ 0 ≤ x.floor ∧ x.floor ≤ 18446744073709551615
theorem PreS.tkr {s : St} {b : Nat} (h : PreS s b) (i : Nat) : TkR (s.tsk i) := ⟨h.k.wf.mask0 i, h.k.wf.mask1 i, h.tv i, h.k.wf.tv i, h.k.wf.tr i⟩
theorem PreS.spr {s : St} {b : Nat} (h : PreS s b) (g c : Nat) : SpR (s.sp g c) := ⟨h.k.v0 g c, h.k.wf.sv g c, h.k.wf.sr g c, h.f0 g c, h.f1 g c⟩
theorem PreS.of {s s' : St} {b b' : Nat} (h : PreS s b) (hb : b ≤ b') (e1 : s'.ng ≤ 6) (e2 : s'.nk ≤ 4 + b') (e3 : s'.nu ≤ 4 + b') (e4 : s'.nt ≤ 100) (e5 : s'.ns ≤ 6) (e6 : ∀ g, g < s'.ns → 0 < s'.nsp g ∧ s'.nsp g ≤ 4 + b') (e7 : 0 ≤ s'.credit)
    (ht : ∀ i, TkR (s'.tsk i)) (hs : ∀ g c, SpR (s'.sp g c)) : PreS s' b' :=
  ⟨e1, e2, e3, e4, e5, fun g hg => (e6 g hg).1, fun g hg => (e6 g hg).2, e7, ⟨⟨fun i => (ht i).1, fun i => (ht i).2.1, fun i => (ht i).2.2.2.1, fun i => (ht i).2.2.2.2, fun g c => (hs g c).2.1, fun g c => (hs g c).2.2.1⟩, fun g c => (hs g c).1⟩, fun i => (ht i).2.2.1, fun g c => (hs g c).2.2.2.1, fun g c => (hs g c).2.2.2.2⟩
theorem PreS.same {s s' : St} {b : Nat} (h : PreS s b) (e1 : s'.ng = s.ng) (e2 : s'.nk = s.nk) (e3 : s'.nu = s.nu) (e4 : s'.nt = s.nt) (e5 : s'.ns = s.ns) (e6 : s'.nsp = s.nsp) (e7 : 0 ≤ s'.credit)
    (ht : ∀ i, TkR (s'.tsk i)) (hs : ∀ g c, SpR (s'.sp g c)) : PreS s' (b + 1) :=
  h.of (Nat.le_succ _) (by have := h.ng; omega) (by have := h.nk; omega) (by have := h.nu; omega) (by have := h.nt; omega) (by have := h.ns; omega) (fun g hg => ⟨by rw [e6]; exact h.p0 g (by omega), by rw [e6]; have := h.p1 g (by omega); omega⟩) e7 ht hs
theorem PreS.tk {s : St} {b i : Nat} {f : Tk → Tk} (h : PreS s b) (hf : TkR (f (s.tsk i))) : PreS (tkS s i f) (b + 1) :=
  h.same rfl rfl rfl rfl rfl rfl h.c0 (fun j => by simp only [tkS]; split; exact hf; exact h.tkr j) h.spr
theorem PreS.sp {s : St} {b g c : Nat} {f : Sp → Sp} (h : PreS s b) (hf : SpR (f (s.sp g c))) : PreS (spS s g c f) (b + 1) :=
  h.same rfl rfl rfl rfl rfl rfl h.c0 h.tkr (fun a b => by simp only [spS]; split; exact hf; exact h.spr a b)
theorem PreS.spoil {s : St} {b w : Nat} (h : PreS s b) (hF : Full s) (hw : w < 40) : PreS (spoilS s w) (b + 1) := by
  match w, hw with
  | 0, _ => exact h.same rfl rfl rfl rfl rfl rfl h.c0 h.tkr h.spr
  | 1, _ => exact h.same rfl rfl rfl rfl rfl rfl h.c0 h.tkr h.spr
  | 2, _ => exact h.of (Nat.le_succ _) (by show 2 ≤ 6; omega) (by have := h.nk; show s.nk ≤ _; omega) (by have := h.nu; show s.nu ≤ _; omega) h.nt h.ns (fun g hg => ⟨h.p0 g hg, by have := h.p1 g hg; show s.nsp g ≤ _; omega⟩) h.c0 h.tkr h.spr
  | 3, _ => exact h.same rfl rfl rfl rfl rfl rfl h.c0 h.tkr h.spr
  | 4, _ => exact h.same rfl rfl rfl rfl rfl rfl h.c0 h.tkr h.spr
  | 5, _ => exact h.same rfl rfl rfl rfl rfl rfl (by show 0 ≤ IntKind.u64.wrap _; rw [IntKind.wrap_u64]; omega) h.tkr h.spr
  | 6, _ => exact h.of (Nat.le_succ _) h.ng (by have := h.nk; show s.nk + 1 ≤ _; omega) (by have := h.nu; show s.nu ≤ _; omega) h.nt h.ns (fun g hg => ⟨h.p0 g hg, by have := h.p1 g hg; show s.nsp g ≤ _; omega⟩) h.c0 h.tkr h.spr
  | 7, _ => exact h.of (Nat.le_succ _) h.ng (by have := h.nk; show s.nk ≤ _; omega) (by have := h.nu; show s.nu + 1 ≤ _; omega) h.nt h.ns (fun g hg => ⟨h.p0 g hg, by have := h.p1 g hg; show s.nsp g ≤ _; omega⟩) h.c0 h.tkr h.spr
  | 8, _ => exact h.of (Nat.le_succ _) h.ng (by have := h.nk; show s.nk ≤ _; omega) (by have := h.nu; show s.nu ≤ _; omega) h.nt (by show 2 ≤ 6; omega) (fun g hg => ⟨h.p0 g (by have := hF.ns; have : g < 2 := hg; omega), by have := h.p1 g (by have := hF.ns; have : g < 2 := hg; omega); show s.nsp g ≤ _; omega⟩) h.c0 h.tkr h.spr
  | 9, _ => exact h.of (Nat.le_succ _) h.ng (by have := h.nk; show s.nk ≤ _; omega) (by have := h.nu; show s.nu ≤ _; omega) h.nt h.ns (fun g hg => by have a := h.p0 g hg; have b := h.p1 g hg; show 0 < (if g = 1 then 1 else s.nsp g) ∧ (if g = 1 then 1 else s.nsp g) ≤ _; split <;> omega) h.c0 h.tkr h.spr
  | 10, _ => exact h.of (Nat.le_succ _) h.ng (by have := h.nk; show s.nk ≤ _; omega) (by have := h.nu; show s.nu ≤ _; omega) h.nt h.ns (fun g hg => by have a := h.p0 g hg; have b := h.p1 g hg; have c := h.p1 2 hF.ns; show 0 < (if g = 2 then s.nsp 2 + 1 else s.nsp g) ∧ (if g = 2 then s.nsp 2 + 1 else s.nsp g) ≤ _; split <;> omega) h.c0 h.tkr (fun a c => by show SpR (if a = 2 ∧ c = s.nsp 2 then _ else s.sp a c); split; exact ⟨by decide, by decide, by decide, by decide, by decide⟩; exact h.spr a c)
  | 11, _ => exact h.same rfl rfl rfl rfl rfl rfl h.c0 h.tkr h.spr
  | 12, _ => exact h.same rfl rfl rfl rfl rfl rfl h.c0 h.tkr h.spr
  | 13, _ => exact h.same rfl rfl rfl rfl rfl rfl h.c0 h.tkr h.spr
  | 14, _ => exact h.same rfl rfl rfl rfl rfl rfl h.c0 h.tkr h.spr
  | 15, _ => exact h.same rfl rfl rfl rfl rfl rfl h.c0 h.tkr h.spr
  | 16, _ => exact h.same rfl rfl rfl rfl rfl rfl h.c0 h.tkr h.spr
  | 17, _ => exact h.same rfl rfl rfl rfl rfl rfl h.c0 h.tkr h.spr
  | 18, _ => exact h.same rfl rfl rfl rfl rfl rfl h.c0 (fun j => by show TkR (if j = 0 then _ else if j = 1 then _ else s.tsk j); split; exact h.tkr 0; split; exact h.tkr 1; exact h.tkr j) h.spr
  | 19, _ =>
    simp only [spoilS]
    exact h.tk (h.tkr 1)
  | 20, _ =>
    simp only [spoilS]
    exact h.tk (h.tkr 0)
  | 21, _ =>
    simp only [spoilS]
    exact h.tk (h.tkr 2)
  | 22, _ =>
    simp only [spoilS]
    exact h.tk (h.tkr 0)
  | 23, _ =>
    simp only [spoilS]
    exact h.tk (h.tkr 1)
  | 24, _ =>
    simp only [spoilS]
    exact h.tk (h.tkr 0)
  | 25, _ =>
    simp only [spoilS]
    exact h.tk (h.tkr 1)
  | 26, _ =>
    simp only [spoilS]
    exact h.tk ⟨by first | decide | simp, by first | decide | simp, (h.tkr 0).2.2⟩
  | 27, _ =>
    simp only [spoilS]
    exact h.tk ⟨by first | decide | simp, by first | decide | simp, (h.tkr 0).2.2⟩
  | 28, _ =>
    simp only [spoilS]
    exact h.tk ⟨by first | decide | simp, by first | decide | simp, (h.tkr 1).2.2⟩
  | 29, _ =>
    simp only [spoilS]
    exact h.tk ⟨(h.tkr 0).1, (h.tkr 0).2.1, (h.tkr 0).2.2.1, (h.tkr 0).2.2.2.1, by first | decide | simp⟩
  | 30, _ =>
    simp only [spoilS]
    exact h.tk (h.tkr 1)
  | 31, _ =>
    simp only [spoilS]
    exact h.tk (h.tkr 0)
  | 32, _ =>
    simp only [spoilS]
    exact h.sp ⟨(h.spr 2 1).1, (h.spr 2 1).2.1, by first | decide | simp, (h.spr 2 1).2.2.2⟩
  | 33, _ =>
    simp only [spoilS]
    exact h.sp ⟨by first | decide | simp, by first | decide | simp, (h.spr 0 1).2.2⟩
  | 34, _ =>
    simp only [spoilS]
    exact h.sp ⟨(h.spr 0 0).1, (h.spr 0 0).2.1, by first | decide | simp, (h.spr 0 0).2.2.2⟩
  | 35, _ =>
    simp only [spoilS]
    exact h.sp ⟨(h.spr 2 1).1, (h.spr 2 1).2.1, (h.spr 2 1).2.2.1, by first | decide | simp, by first | decide | simp⟩
  | 36, _ =>
    simp only [spoilS]
    exact h.sp ⟨(h.spr 0 0).1, (h.spr 0 0).2.1, (h.spr 0 0).2.2.1, by first | decide | simp, by first | decide | simp⟩
  | 37, _ =>
    simp only [spoilS]
    exact h.sp ⟨(h.spr 1 1).1, (h.spr 1 1).2.1, (h.spr 1 1).2.2.1, by first | decide | simp, by first | decide | simp⟩
  | 38, _ =>
    simp only [spoilS]
    exact h.tk ⟨(h.tkr 0).1, (h.tkr 0).2.1, by first | decide | simp, by first | decide | simp, by first | decide | simp⟩
  | 39, _ => exact h.same rfl rfl rfl rfl rfl rfl h.c0 h.tkr (fun a c => by
      show SpR (if a = 1 ∧ c = 0 then _ else s.sp a c)
      split
      · exact ⟨(h.spr 1 0).1, (h.spr 1 0).2.1, (h.spr 1 0).2.2.1, by first | decide | simp, by first | decide | simp⟩
      · exact h.spr a c)
  | w + 40, hw => exact absurd hw (by omega)
end Go.Proofs.T
end
section
namespace Go.Proofs.T
open Go Go.AM Go.Proofs
set_option maxRecDepth 20000
theorem ckB_iff {s : St} {i : Nat} : ckB s i = false ↔ 0 ≤ s.clk i ∧ s.clk i ≤ 281474976710656 := by
  simp only [ckB, decide_eq_false_iff_not]; omega
theorem okTk_iff {s : St} {n : Nat} {t : Tk} : okTk s n t = true ↔ 1 ≤ t.id ∧ t.id ≤ 65535 ∧ 0 ≤ t.group ∧ t.group < s.ns ∧ 0 ≤ t.cpu ∧ t.cpu < n ∧ (1 ≤ t.weight ∧ t.weight ≤ 65536) ∧ t.mask / 2 ^ n = 0 ∧ t.mask / 2 ^ t.cpu.toNat % 2 = 1 ∧ ent t.v t.r t.weight = true := by
  simp only [okTk, decide_eq_true_eq]
theorem sorted_of {L : LSt} (h : ∀ i, i < L.tl.length → 0 < i → (L.tsk (i - 1)).id < (L.tsk i).id) : Sorted L := fun i j hij => by
  induction j with
  | zero => omega
  | succ j ih =>
    intro hj
    have h1 := h (j + 1) hj (by omega)
    rw [Nat.add_sub_cancel] at h1
    by_cases e : i = j
    · subst e; exact h1
    · have := ih (by omega) (by omega); omega
theorem ent_w {v r w : Int} (h : ent v r w = true) : 1 ≤ w ∧ w ≤ 65536 := by
  simp only [ent, decide_eq_true_eq] at h; omega
theorem cfg_par {s : St} (h : refCfg s = true) : ∀ g, 0 < g → g < s.ng → 0 ≤ s.par g ∧ s.par g < g := fun g h1 h2 => by
  have := (refCfg_spec h).2 g h1 h2
  simp only [okR, Bool.and_eq_true, decide_eq_true_eq] at this
  exact rdep_par h1 this.2
theorem cfg_wt {s : St} (h : refCfg s = true) : ∀ g, g < s.ng → 1 ≤ s.wt g ∧ s.wt g ≤ 65536 := fun g h1 => by
  by_cases e : g = 0
  · subst e; have := (refCfg_spec h).1.2.2.2.2.2.2; omega
  · have := (refCfg_spec h).2 g (by omega) h1
    simp only [okR, okW, Bool.and_eq_true, decide_eq_true_eq] at this
    exact this.1
theorem rt0_of {L : LSt} {b n : Nat} (hP : PreS L.st b) (hc : refCfg L.st = true) (hn : L.cpus = n) (h : ShP L.st n) (hcur : ∀ c, c < n → CurP L c) : Rt0 L n := by
  obtain ⟨⟨r1, r2, r3, r4, r5, r6, r7⟩, _⟩ := refCfg_spec hc
  have r1 : 1 ≤ L.cpus := r1
  have r2 : L.cpus ≤ 64 := r2
  have hsg : L.sl.length = L.gl.length := h.ns
  have r4 : 1 ≤ L.gl.length := r4
  have r5 : L.gl.length ≤ 256 := r5
  have hnt : L.tl.length ≤ 100 := hP.nt
  refine ⟨by omega, by omega, hn, hP.c0, r3, hsg.symm, by omega, by omega, h.nk, h.nu, fun g hg => (h.sp g hg).1, by omega, fun g h1 h2 => cfg_par hc g h1 (by show g < L.gl.length; omega), r6, fun g hg => cfg_wt hc g (by show g < L.gl.length; omega),
    fun c hcc => ckB_iff.1 (h.ck c (by have : L.st.nk = n := h.nk; omega)), fun g c hg hcc => ?_, fun c hcc => ((h.sp 0 (by show 0 < L.sl.length; omega)).2 c hcc).2 rfl, fun i hi => ?_, sorted_of fun i hi h0 => (h.tk i hi).1 h0, hcur⟩
  · obtain ⟨a1, a2, a3, a4, a5⟩ := hP.spr g c
    exact ⟨((h.sp g hg).2 c hcc).1, a1, a2, a3, a4, a5⟩
  · obtain ⟨b1, b2, b3, b4, b5, b6, b7, b8, b9, b10⟩ := okTk_iff.1 (h.tk i hi).2
    obtain ⟨c1, c2, c3, c4, c5⟩ := hP.tkr i
    exact ⟨b1, b2, b3, b4, b5, b6, b10, c3, c4, c5, c1, c2, b8, b9⟩
theorem shp_of {L : LSt} {n : Nat} (h : Rt0 L n) : ShP L.st n := by
  have hng := h.ng
  refine ⟨h.nk, h.nu, hng.symm, fun i hi => ckB_iff.2 (h.clk i (by have hi : i < L.kl.length := hi; rw [h.nk] at hi; exact hi)), fun g hg => ⟨h.rows g hg, fun c hc => ⟨(h.sp g c hg hc).1, fun e => by subst e; exact h.root c hc⟩⟩, fun i hi => ⟨fun h0 => h.sorted (i - 1) i (by omega) hi, ?_⟩⟩
  have t := h.tk i hi
  exact okTk_iff.2 ⟨t.id1, t.id2, t.g0, t.g1, t.c0, t.c1, ent_w t.e, t.m2, t.m3, t.e⟩
theorem lenpos {α : Type} {l : List α} (h : ¬ 0 < l.length) : l = [] := List.eq_nil_of_length_eq_zero (by omega)
theorem rt0_check {L : LSt} {b n : Nat} (hP : PreS L.st b) (hn : L.cpus.toNat = n) (h : checkR L.st = []) : Rt0 L n ∧ refCfg L.st = true := by
  unfold checkR at h
  by_cases hc : refCfg L.st = true
  rotate_left 1
  · rw [if_pos (by simpa using hc)] at h; cases h
  rw [if_neg (by rw [hc]; simp)] at h
  obtain ⟨⟨r1, r2, r3, r4, r5, r6, r7⟩, _⟩ := refCfg_spec hc
  have r1 : 1 ≤ L.cpus := r1
  have r2 : L.cpus ≤ 64 := r2
  have hcn : L.cpus = n := by omega
  by_cases hs : 0 < (shapesL L.st).length
  · rw [if_pos hs] at h; rw [h] at hs; simp at hs
  rw [if_neg hs] at h
  by_cases hp : 0 < (partsL L.st).length
  · rw [if_pos hp] at h; rw [h] at hp; simp at hp
  obtain ⟨s1, s2, s3, s4⟩ := shapes_nil (s := L.st) (by omega)
  have hp := lenpos hp
  unfold partsL at hp
  simp only [List.append_eq_nil_iff] at hp
  obtain ⟨p1, p2, p3, p4, p5⟩ := hp
  have s1 : (L.kl.length : Int) = L.cpus := s1
  have s2 : (L.ul.length : Int) = L.cpus := s2
  have s3 : L.sl.length = L.gl.length := s3
  have s4 : ∀ g, g < L.sl.length → (((L.sl.getD g []).length : Nat) : Int) = L.cpus := s4
  have hct : L.st.cpus.toNat = n := hn
  rw [hct] at p4 p5
  refine ⟨rt0_of hP hc hcn ⟨by show L.kl.length = n; omega, by show L.ul.length = n; omega, s3, fun i hi => ?_, fun g hg => ⟨by show (L.sl.getD g []).length = n; have := s4 g hg; omega, fun c hcc => ?_⟩, fun i hi => ?_⟩ fun c hcc => ?_, hc⟩
  · have := flats_nil_iff.1 p1 i hi
    unfold clockAt at this
    rw [iff1_nil] at this
    exact this
  · have hr : g = 0 → (L.st.sp g c).v = 0 ∧ (L.st.sp g c).r = 0 := fun e => by
      subst e
      have := flats_nil_iff.1 p4 c hcc
      unfold rootAt at this
      rw [iff1_nil, decide_eq_false_iff_not] at this
      have := (hP.spr 0 c).1
      have := (hP.spr 0 c).2.2.1
      omega
    refine ⟨?_, hr⟩
    by_cases e : g = 0
    · obtain ⟨e1, e2⟩ := hr e
      subst e
      have e3 : L.st.wt 0 = 1 := r7
      rw [e1, e2, e3]
      rfl
    · have := flats_nil_iff.1 p3 g hg
      unfold sptR at this
      rw [if_neg e] at this
      have hg2 : g < L.sl.length := hg
      have := flats_nil_iff.1 this c (by show c < (L.sl.getD g []).length; have := s4 g hg2; omega)
      unfold sptAt at this
      rw [iff1_nil, Bool.not_eq_false'] at this
      exact this
  · have hb : ∀ r : Nat, r < 7 → brk L.st i ((r : Int) + 4) = false := fun r hr => by
      have := flats_nil_iff.1 (flats_nil_iff.1 p2 r hr) i hi
      unfold brkAt at this
      rw [iff1_nil] at this
      exact this
    have b4 : t4 L.st i = false := hb 0 (by omega)
    have b5 : t5 L.st i = false := hb 1 (by omega)
    have b6 : t6 L.st i = false := hb 2 (by omega)
    have b7 : t7 L.st i = false := hb 3 (by omega)
    have b8 : r8 L.st i = false := hb 4 (by omega)
    have b9 : r9 L.st i = false := hb 5 (by omega)
    have b10 : t10 L.st i = false := hb 6 (by omega)
    obtain ⟨c1, c2, c3, c4, c5⟩ := hP.tkr i
    simp only [t4, Bool.and_eq_false_iff, decide_eq_false_iff_not] at b4
    simp only [t5, decide_eq_false_iff_not] at b5
    simp only [t6, decide_eq_false_iff_not] at b6
    simp only [t7, Bool.not_eq_false'] at b7
    simp only [r9, b7, Bool.true_and, Bool.not_eq_false', bitB, decide_eq_true_eq] at b9
    simp only [onB, decide_eq_true_eq] at b7
    simp only [t10, Bool.not_eq_false'] at b10
    rw [← t8_eq L.st hP.k.wf i (by show 0 ≤ L.cpus; omega) r2] at b8
    simp only [t8, Bool.and_eq_false_iff, decide_eq_false_iff_not] at b8
    have hs3 : (L.st.ns : Int) = L.st.ng := by show (L.sl.length : Int) = L.gl.length; omega
    have hm : (L.st.tsk i).mask / 2 ^ n = 0 := by
      have h0 : 0 ≤ (L.st.tsk i).mask / 2 ^ n := Int.ediv_nonneg c1 (Int.pow_nonneg (by omega))
      rcases b8 with b8 | b8
      · have b8 : ¬ L.cpus < 64 := b8
        have : n = 64 := by omega
        subst this
        exact Int.ediv_eq_zero_of_lt c1 (by show _ < (18446744073709551616 : Int); exact c2)
      · have b8 : ¬ 0 < shr (L.st.tsk i).mask L.cpus := b8
        rw [shr, hcn, show min ((n : Int).toNat) 64 = n by omega, Int.fdiv_eq_ediv_of_nonneg _ (Int.pow_nonneg (by omega))] at b8
        omega
    refine ⟨fun h0 => ?_, okTk_iff.2 ⟨by omega, by omega, by omega, by omega, b7.1, by have : (L.st.tsk i).cpu < L.cpus := b7.2; omega, ent_w b10, hm, b9, b10⟩⟩
    rcases b4 with b4 | b4
    · omega
    · omega
  · have := flats_nil_iff.1 p5 c hcc
    unfold curAt at this
    rw [iff1_nil] at this
    by_cases h0 : L.cur c = 0
    · exact .inl h0
    · have hd : decide (L.st.cur c ≠ 0) = true := decide_eq_true h0
      rw [hd, Bool.true_and, Bool.not_eq_false', anyB_iff] at this
      obtain ⟨j, j1, j2⟩ := this
      simp only [isReady, Bool.and_eq_true, decide_eq_true_eq] at j2
      exact .inr ⟨j, j1, j2.2.1, j2.2.2, j2.1⟩
theorem right_iff {L : LSt} {b n : Nat} (hP : PreS L.st b) (hn : L.cpus.toNat = n) : checkR L.st = [] ↔ refCfg L.st = true ∧ ShP L.st n ∧ ∀ c, c < n → CurP L c ∧ FlP L c := by
  have h12 : L.sl.length ≤ 12 := by have : L.sl.length ≤ 6 := hP.ns; omega
  constructor
  · intro h
    obtain ⟨h0, hc⟩ := rt0_check hP hn h
    rw [h0.check h12 hc] at h
    exact ⟨hc, shp_of h0, fun c hcc => ⟨h0.cur c hcc, fun g hg => flrL_nil.1 (flats_nil_iff.1 (flats_nil_iff.1 h g hg) c hcc)⟩⟩
  · rintro ⟨hc, hs, hf⟩
    have hcn : L.cpus = n := by have : 1 ≤ L.cpus := (refCfg_spec hc).1.1; omega
    have h0 := rt0_of hP hc hcn hs fun c hcc => (hf c hcc).1
    exact check_no h0 (fun g c hg hcc => (hf c hcc).2 g hg) h12 hc
end Go.Proofs.T
end
section
namespace Go.Proofs.T
open Go Go.AM Go.Proofs
set_option maxRecDepth 20000
variable {Γ : List (Nat × List AVal)}
theorem cloneIP (n : Nat) (f : Nat → List AVal) (hn0 : 0 < n) (hn2 : n ≤ 100000) (hone : (((List.range n).map f).all fun row => row.all AM.one) = true) :
    AM.Pure Tryz.prog Γ 62 [.rd 1 n f] (.rd 1 n f) := by
  have hne : ¬ n = 0 := by omega
  refine Pure_at Tryz.func62 rfl 8 rfl (Nat.le_of_ble_eq_true rfl) rfl fun k => ?_
  have kp : Kp [0,2,4] (fun i => i - k) := kpI
  have uU := zA @hone (zA @hne @hn0)
  refine wl ?_; refine zq1 ⟨fun ht => ⟨⟨?_⟩⟩⟩
  refine W_mv (Mv.freeze (k + 1) (by simp -dsimp -implicitDefEqProofs only [go_sem, hone, hne, hn0, eq_self, ↓reduceIte]; rfl) rfl) ?_; simp -dsimp -implicitDefEqProofs only [frzF, frz_app, go_sem, hone, hne, hn0, eq_self, ↓reduceIte]
  have uU := zA @hone (zA @hne @hn0); refine cR ?_; apply zN
  exact VLe.copy' _ _ _
theorem cloneGP (n : Nat) (f : Nat → List AVal) (hn0 : 0 < n) (hn2 : n ≤ 100000) (hone : (((List.range n).map f).all fun row => row.all AM.one) = true) :
    AM.Pure Tryz.prog Γ 61 [.rd 2 n f] (.rd 2 n f) := by
  have hne : ¬ n = 0 := by omega
  refine Pure_at Tryz.func61 rfl 8 rfl (Nat.le_of_ble_eq_true rfl) rfl fun k => ?_
  have kp : Kp [0,2,4] (fun i => i - k) := kpI
  have uU := zA @hone (zA @hne @hn0)
  refine wl ?_; refine zq1 ⟨fun ht => ⟨⟨?_⟩⟩⟩
  refine W_mv (Mv.freeze (k + 1) (by simp -dsimp -implicitDefEqProofs only [go_sem, hone, hne, hn0, eq_self, ↓reduceIte]; rfl) rfl) ?_; simp -dsimp -implicitDefEqProofs only [frzF, frz_app, go_sem, hone, hne, hn0, eq_self, ↓reduceIte]
  have uU := zA @hone (zA @hne @hn0); refine cR ?_; apply zN
  exact VLe.copy' _ _ _
theorem cloneTP (n : Nat) (f : Nat → List AVal) (hn0 : 0 < n) (hn2 : n ≤ 100000) (hone : (((List.range n).map f).all fun row => row.all AM.one) = true) :
    AM.Pure Tryz.prog Γ 63 [.rd 8 n f] (.rd 8 n f) := by
  have hne : ¬ n = 0 := by omega
  refine Pure_at Tryz.func63 rfl 8 rfl (Nat.le_of_ble_eq_true rfl) rfl fun k => ?_
  have kp : Kp [0,2,4] (fun i => i - k) := kpI
  have uU := zA @hone (zA @hne @hn0)
  refine wl ?_; refine zq1 ⟨fun ht => ⟨⟨?_⟩⟩⟩
  refine W_mv (Mv.freeze (k + 1) (by simp -dsimp -implicitDefEqProofs only [go_sem, hone, hne, hn0, eq_self, ↓reduceIte]; rfl) rfl) ?_; simp -dsimp -implicitDefEqProofs only [frzF, frz_app, go_sem, hone, hne, hn0, eq_self, ↓reduceIte]
  have uU := zA @hone (zA @hne @hn0); refine cR ?_; apply zN
  exact VLe.copy' _ _ _
theorem cloneSP (n : Nat) (f : Nat → List AVal) (hn0 : 0 < n) (hn2 : n ≤ 100000) (hone : (((List.range n).map f).all fun row => row.all AM.one) = true) :
    AM.Pure Tryz.prog Γ 64 [.rd 3 n f] (.rd 3 n f) := by
  have hne : ¬ n = 0 := by omega
  refine Pure_at Tryz.func64 rfl 8 rfl (Nat.le_of_ble_eq_true rfl) rfl fun k => ?_
  have kp : Kp [0,2,4] (fun i => i - k) := kpI
  have uU := zA @hone (zA @hne @hn0)
  refine wl ?_; refine zq1 ⟨fun ht => ⟨⟨?_⟩⟩⟩
  refine W_mv (Mv.freeze (k + 1) (by simp -dsimp -implicitDefEqProofs only [go_sem, hone, hne, hn0, eq_self, ↓reduceIte]; rfl) rfl) ?_; simp -dsimp -implicitDefEqProofs only [frzF, frz_app, go_sem, hone, hne, hn0, eq_self, ↓reduceIte]
  have uU := zA @hone (zA @hne @hn0); refine cR ?_; apply zN
  exact VLe.copy' _ _ _
def cqR (s : St) (i : Nat) : List (List AVal) := (List.range s.ns).map fun j => if j < i then ssf s j else [.lit (.slice none 0 0)]
theorem cqR_len (s : St) (i : Nat) : (cqR s i).length = s.ns := by simp [cqR]
theorem cqR_zero (s : St) : cqR s 0 = List.replicate s.ns [.lit (.slice none 0 0)] := List.ext_getElem? fun j => by
  by_cases h : j < s.ns
  · simp [cqR, h]
  · rw [List.getElem?_eq_none (by rw [cqR_len]; omega), List.getElem?_eq_none (by simp; omega)]
theorem cqR_set (s : St) (i : Nat) (h : i < s.ns) : (cqR s i).set i (ssf s i) = cqR s (i + 1) := List.ext_getElem? fun j => by
  rw [List.getElem?_set]
  by_cases e : i = j
  · subst e
    rw [if_pos rfl, if_pos (by rw [cqR_len]; exact h)]
    simp [cqR, h]
  · rw [if_neg e]
    by_cases hj : j < s.ns
    · simp only [cqR, List.getElem?_map, List.getElem?_range hj, Option.map_some]
      by_cases h1 : j < i
      · rw [if_pos h1, if_pos (by omega)]
      · rw [if_neg h1, if_neg (by omega)]
    · rw [List.getElem?_eq_none (by rw [cqR_len]; omega), List.getElem?_eq_none (by rw [cqR_len]; omega)]
theorem cqR_last (s : St) : cqR s s.ns = (List.range s.ns).map (ssf s) := List.map_congr_left fun j hj => if_pos (List.mem_range.1 hj)
theorem cqR_one (s : St) (i : Nat) : ((cqR s i).all fun row => row.all AM.one) = true := all_rows fun j => by split <;> rfl
attribute [go_sem] cqR_len
theorem ownN' : AM.Pure Tryz.prog Γ 63 [.lit (.slice none 0 0)] (.lit (.slice none 0 0)) := by
  refine Pure_at Tryz.func63 rfl 8 rfl (Nat.le_of_ble_eq_true rfl) rfl fun k => ?_
  have kp : Kp [0,2,4] (fun i => i - k) := kpI
  refine wl ?_; refine zq1 ⟨fun ht => ⟨⟨?_⟩⟩⟩
  refine C_ret rfl ⟨_, rfl, VLe.of_eq ?_⟩
  rfl
theorem Pure_le0 {P : Program} {f : FuncId} {args : List AVal} {r r' : AVal} (h : AM.Pure P Γ f args r) (hle : VLe r r') : AM.Pure P Γ f args r' := fun k A hA w G ρ cargs h1 h2 =>
  (h k A hA w G ρ cargs h1 h2).mono fun _ _ ⟨cv, G', ρ', k', r1, H', he, ⟨e1, e2, e3⟩, a, b, c, d⟩ => ⟨cv, G', ρ', k', r', H', he, ⟨e1, rfl, e3⟩, a, b, hle _ _ _ _ _ (e2 ▸ c), d⟩
def zq7 : List AVal := [.lit (.int .i64 0), .lit (.int .u64 0), .lit (.slice none 0 0), .lit (.slice none 0 0), .lit (.slice none 0 0), .lit (.slice none 0 0), .lit (.slice none 0 0)]
attribute [go_sem] zq7
set_option maxHeartbeats 8000000 in
theorem copiedP0 (s : St) (hs : s.Small) (hg0 : 0 < s.ng) (hk0 : 0 < s.nk) (hu0 : 0 < s.nu) (hs0 : 0 < s.ns) (hp : ∀ g, g < s.ns → 0 < s.nsp g) (h0 : s.nt = 0) :
    AM.Pure Tryz.prog Γ 30 [.agg [.lit (.int .i64 s.cpus), .lit (.int .u64 s.credit), .rd 2 s.ng (gf s), .rd 1 s.nk (kf s), .rd 1 s.nu (uf s), .lit (.slice none 0 0), .rd 1 s.ns (ssf s)]] (.agg s.cells) := by
  obtain ⟨hng, hnk, hnu, hnt, hns, hnsp⟩ := id hs
  have cG := cloneGP s.ng (gf s) hg0 (by omega) (rows_one_of _ _ fun _ => rfl) (Γ := Γ)
  have cK := cloneIP s.nk (kf s) hk0 (by omega) (rows_one_of _ _ fun _ => rfl) (Γ := Γ)
  have cU := cloneIP s.nu (uf s) hu0 (by omega) (rows_one_of _ _ fun _ => rfl) (Γ := Γ)
  have cT : AM.Pure Tryz.prog Γ 63 [.lit (.slice none 0 0)] (.rd 8 s.nt (tf s)) := by rw [h0]; exact Pure_le0 ownN' (VLe.nil _ _)
  have hne : ¬ s.ns = 0 := by omega
  have hco := cqR_one s
  refine Pure_at Tryz.func30 rfl 45 rfl (Nat.le_of_ble_eq_true rfl) rfl fun k => ?_
  have kp : Kp [0,1,2,3,4,5,29,30,31,32] (fun i => i - k) := kpI
  have uU := zA @hs0 @hne
  refine wl ?_; refine zq1 ⟨⟨⟨?_⟩⟩⟩
  refine cl [.ret (.rd 2 s.ng (gf s))] ?_; refine zq1 ⟨⟨⟨?_⟩⟩⟩
  all_goals (try exact cG)
  refine wl ?_; refine zq1 ⟨⟨⟨?_⟩⟩⟩
  refine dl [.ret (.rd 1 s.nk (kf s)), .ret (.rd 1 s.nu (uf s)), .ret (.rd 8 s.nt (tf s))] ?_; refine zq1 ⟨⟨⟨?_⟩⟩⟩
  all_goals (try (first | exact cK | exact cU | exact cT))
  refine wl ?_; refine zq1 ⟨⟨⟨?_⟩⟩⟩
  refine M_forO (X := Nat) rfl [0,1,2,3,4,5,29,30,31,32] (k + 3) (fun i => [(31, .lit (.int .i64 (i : Int)))]) (fun i => [(k + 2, ⟨1, true, cqR s i⟩), (k + 1, ⟨7, true, [zq7]⟩), (k, ⟨7, true, [s.cells]⟩)]) (fun i => i ≤ s.ns) (fun i => s.ns - i) 0 ?_ (Nat.zero_le _) ?_
  · rw [cqR_zero]
    refine rR ?_; apply zN
    (have uU := zA @hs0 @hne; exact wkU)
  intro i hi
  refine rR ?_; apply zN
  by_cases hi2 : i < s.ns
  · have cS := cloneSP (s.nsp i) (sf s i) (hp i hi2) (by have := hnsp i hi2; omega) (rows_one_of _ _ fun _ => rfl) (Γ := Γ)
    have hcg : (cqR s i)[i]? = some [.lit (.slice none 0 0)] := by simp [cqR, hi2]
    have hset := cqR_set s i hi2
    rw [ssf] at hset
    have uU := zA @hcg @hset
    refine wl ?_; refine zq1 ⟨fun ht => ⟨⟨?_⟩⟩⟩
    refine cl [.ret (.rd 3 (s.nsp i) (sf s i))] ?_; refine zq1 ⟨⟨⟨?_⟩⟩⟩
    all_goals (try exact cS)
    refine wl ?_; refine zq1 ⟨⟨⟨?_⟩⟩⟩
    refine ⟨i + 1, by omega, by omega, ?_⟩
    refine rR ?_; apply zN
    (have uU := zA @hcg @hset; exact wkU)
  · have hil : i = s.ns := by omega
    subst hil
    have uU := Go.AM.uU
    refine wl ?_; refine zq1 ⟨fun ht => ⟨⟨?_⟩⟩⟩
    rw [cqR_last]
    refine W_mv (Mv.freeze (k + 2) (by simp -dsimp -implicitDefEqProofs only [go_sem, eq_self, ↓reduceIte]; rfl) rfl) ?_; simp -dsimp -implicitDefEqProofs only [frzF, frz_app, go_sem, eq_self, ↓reduceIte]
    have uU := Go.AM.uU; refine cR ?_; apply zN
    exact VLe.aggs (.cons (VLe.refl _) (.cons (VLe.refl _) (.cons (VLe.refl _) (.cons (VLe.refl _) (.cons (VLe.refl _) (.cons (VLe.refl _) (.cons (VLe.copy' _ _ _) .nil)))))))
set_option maxHeartbeats 8000000 in
theorem copiedP1 (s : St) (hs : s.Small) (hg0 : 0 < s.ng) (hk0 : 0 < s.nk) (hu0 : 0 < s.nu) (hs0 : 0 < s.ns) (hp : ∀ g, g < s.ns → 0 < s.nsp g) (h0 : 0 < s.nt) :
    AM.Pure Tryz.prog Γ 30 [.agg [.lit (.int .i64 s.cpus), .lit (.int .u64 s.credit), .rd 2 s.ng (gf s), .rd 1 s.nk (kf s), .rd 1 s.nu (uf s), .rd 8 s.nt (tf s), .rd 1 s.ns (ssf s)]] (.agg s.cells) := by
  obtain ⟨hng, hnk, hnu, hnt, hns, hnsp⟩ := id hs
  have cG := cloneGP s.ng (gf s) hg0 (by omega) (rows_one_of _ _ fun _ => rfl) (Γ := Γ)
  have cK := cloneIP s.nk (kf s) hk0 (by omega) (rows_one_of _ _ fun _ => rfl) (Γ := Γ)
  have cU := cloneIP s.nu (uf s) hu0 (by omega) (rows_one_of _ _ fun _ => rfl) (Γ := Γ)
  have cT : AM.Pure Tryz.prog Γ 63 [.rd 8 s.nt (tf s)] (.rd 8 s.nt (tf s)) := cloneTP s.nt (tf s) h0 (by omega) (rows_one_of _ _ fun _ => rfl)
  have hne : ¬ s.ns = 0 := by omega
  have hco := cqR_one s
  refine Pure_at Tryz.func30 rfl 45 rfl (Nat.le_of_ble_eq_true rfl) rfl fun k => ?_
  have kp : Kp [0,1,2,3,4,5,29,30,31,32] (fun i => i - k) := kpI
  have uU := zA @hs0 @hne
  refine wl ?_; refine zq1 ⟨⟨⟨?_⟩⟩⟩
  refine cl [.ret (.rd 2 s.ng (gf s))] ?_; refine zq1 ⟨⟨⟨?_⟩⟩⟩
  all_goals (try exact cG)
  refine wl ?_; refine zq1 ⟨⟨⟨?_⟩⟩⟩
  refine dl [.ret (.rd 1 s.nk (kf s)), .ret (.rd 1 s.nu (uf s)), .ret (.rd 8 s.nt (tf s))] ?_; refine zq1 ⟨⟨⟨?_⟩⟩⟩
  all_goals (try (first | exact cK | exact cU | exact cT))
  refine wl ?_; refine zq1 ⟨⟨⟨?_⟩⟩⟩
  refine M_forO (X := Nat) rfl [0,1,2,3,4,5,29,30,31,32] (k + 3) (fun i => [(31, .lit (.int .i64 (i : Int)))]) (fun i => [(k + 2, ⟨1, true, cqR s i⟩), (k + 1, ⟨7, true, [zq7]⟩), (k, ⟨7, true, [s.cells]⟩)]) (fun i => i ≤ s.ns) (fun i => s.ns - i) 0 ?_ (Nat.zero_le _) ?_
  · rw [cqR_zero]
    refine rR ?_; apply zN
    (have uU := zA @hs0 @hne; exact wkU)
  intro i hi
  refine rR ?_; apply zN
  by_cases hi2 : i < s.ns
  · have cS := cloneSP (s.nsp i) (sf s i) (hp i hi2) (by have := hnsp i hi2; omega) (rows_one_of _ _ fun _ => rfl) (Γ := Γ)
    have hcg : (cqR s i)[i]? = some [.lit (.slice none 0 0)] := by simp [cqR, hi2]
    have hset := cqR_set s i hi2
    rw [ssf] at hset
    have uU := zA @hcg @hset
    refine wl ?_; refine zq1 ⟨fun ht => ⟨⟨?_⟩⟩⟩
    refine cl [.ret (.rd 3 (s.nsp i) (sf s i))] ?_; refine zq1 ⟨⟨⟨?_⟩⟩⟩
    all_goals (try exact cS)
    refine wl ?_; refine zq1 ⟨⟨⟨?_⟩⟩⟩
    refine ⟨i + 1, by omega, by omega, ?_⟩
    refine rR ?_; apply zN
    (have uU := zA @hcg @hset; exact wkU)
  · have hil : i = s.ns := by omega
    subst hil
    have uU := Go.AM.uU
    refine wl ?_; refine zq1 ⟨fun ht => ⟨⟨?_⟩⟩⟩
    rw [cqR_last]
    refine W_mv (Mv.freeze (k + 2) (by simp -dsimp -implicitDefEqProofs only [go_sem, eq_self, ↓reduceIte]; rfl) rfl) ?_; simp -dsimp -implicitDefEqProofs only [frzF, frz_app, go_sem, eq_self, ↓reduceIte]
    have uU := Go.AM.uU; refine cR ?_; apply zN
    exact VLe.aggs (.cons (VLe.refl _) (.cons (VLe.refl _) (.cons (VLe.refl _) (.cons (VLe.refl _) (.cons (VLe.refl _) (.cons (VLe.refl _) (.cons (VLe.copy' _ _ _) .nil)))))))
end Go.Proofs.T
end
section
namespace Go.Proofs.T
open Go Go.AM Go.Proofs
set_option maxRecDepth 20000
variable {Γ : List (Nat × List AVal)}
def cellsZ (s : St) : List AVal := [.lit (.int .i64 s.cpus), .lit (.int .u64 s.credit), .rd 2 s.ng (gf s), .rd 1 s.nk (kf s), .rd 1 s.nu (uf s), if s.nt = 0 then .lit (.slice none 0 0) else .rd 8 s.nt (tf s), .rd 1 s.ns (ssf s)]
theorem cellsZ_le (s : St) : VLe (.agg (cellsZ s)) (.agg s.cells) := by
  refine VLe.aggs (.cons (VLe.refl _) (.cons (VLe.refl _) (.cons (VLe.refl _) (.cons (VLe.refl _) (.cons (VLe.refl _) (.cons ?_ (.cons (VLe.refl _) .nil)))))))
  split
  · rename_i h; rw [h]; exact VLe.nil _ _
  · exact VLe.refl _
theorem cellsZ_pos {s : St} (h : 0 < s.nt) : cellsZ s = s.cells := by
  have h' : ¬ s.nt = 0 := by omega
  unfold cellsZ
  rw [if_neg h']
  rfl
theorem cellsZ_zero {s : St} (h : s.nt = 0) : cellsZ s = [.lit (.int .i64 s.cpus), .lit (.int .u64 s.credit), .rd 2 s.ng (gf s), .rd 1 s.nk (kf s), .rd 1 s.nu (uf s), .lit (.slice none 0 0), .rd 1 s.ns (ssf s)] := by
  unfold cellsZ
  rw [if_pos h]
theorem copyState0 (s : St) (hs : s.Small) (h0 : s.nt = 0) : AM.Pure Tryz.prog Γ 21 [.agg s.cells] (.agg (cellsZ s)) := by
  obtain ⟨hng, hnk, hnu, hnt, hns, hnsp⟩ := id hs
  rw [cellsZ_zero h0]
  refine Pure_at Tryz.func21 rfl 44 rfl (Nat.le_of_ble_eq_true rfl) rfl fun k => ?_
  have kp : Kp [0,1,2,3,4,5,6,11] (fun i => i - k) := kpI
  refine wl ?_; refine zq1 ⟨⟨⟨?_⟩⟩⟩
  refine M_forO (X := Nat) rfl [0,1,2,3,4,5,6,11] (k + 3) (fun i => [(5, .lit (.int .i64 (i : Int))), (4, accV (k + 2) (spL s i))]) (fun i => accH (k + 2) 1 (spL s i) [(k + 1, ⟨7, true, [zst]⟩), (k, ⟨7, true, [s.cells]⟩)]) (fun i => i ≤ s.ns) (fun i => s.ns - i) 0 ?_ (Nat.zero_le _) ?_
  · rw [spL_zero]
    refine rR ?_; apply zN
    exact wkF
  intro i hi
  refine rR ?_; apply zN
  have hcl : ((spL s i ++ [ssf s i]).all fun row => row.all clean) = true := by rw [← spL_succ]; exact spL_clean s (i + 1)
  refine wl ?_; refine zq2 ⟨fun ht => ⟨⟨?_⟩⟩⟩ ⟨fun ht => ⟨⟨?_⟩⟩⟩
  · by_cases hz : s.nsp i = 0
    · have uU := @hz
      refine wl ?_; refine zq1 ⟨⟨⟨?_⟩⟩⟩
      refine ⟨i + 1, by omega, by omega, ?_⟩
      rw [spL_succ]
      refine Mv.trans (Mv.row (k + 4) (ssf s i) (by simp -dsimp -implicitDefEqProofs only [go_sem, hz, List.map_append, Flt.row, eq_self, ↓reduceIte]; rfl) (by rw [ssf, hz]; exact .cons (VLe.nil _ _) .nil) hcl) ?_
      exact Mv.app (k + 4) (k + 2) ⟨by omega, by omega⟩ ⟨by omega, by omega⟩ (wk_low (by omega) (by simp -dsimp -implicitDefEqProofs only [go_sem, hz, List.map_append, Flt.row, eq_self, ↓reduceIte]) (by simp -dsimp -implicitDefEqProofs only [go_sem, hz, List.map_append, Flt.row, eq_self, ↓reduceIte]) (by simp -dsimp -implicitDefEqProofs only [go_sem, hz, List.map_append, Flt.row, eq_self, ↓reduceIte]) (by simp -dsimp -implicitDefEqProofs only [go_sem, hz, List.map_append, Flt.row, eq_self, ↓reduceIte]))
    · have hpos : 0 < s.nsp i := by omega
      have hle : s.nsp i ≤ 1000 := hnsp i (by omega)
      have uU := zA @hz @hpos
      refine wl ?_; refine zq1 ⟨⟨⟨?_⟩⟩⟩
      refine ⟨i + 1, by omega, by omega, ?_⟩
      rw [spL_succ]
      refine Mv.trans (Mv.freeze (k + 3) (by simp -dsimp -implicitDefEqProofs only [go_sem, hz, hpos, eq_self, ↓reduceIte]; rfl) rfl) ?_
      simp -dsimp -implicitDefEqProofs only [frzF, frz_app, go_sem, hz, hpos, frz_rows (spL_clean s i), eq_self, ↓reduceIte]
      refine Mv.trans (Mv.row (k + 5) (ssf s i) (by simp -dsimp -implicitDefEqProofs only [go_sem, hz, hpos, frz_rows (spL_clean s i), List.map_append, Flt.row, eq_self, ↓reduceIte]; rfl) (.cons (VLe.copy' _ _ _) .nil) hcl) ?_
      exact Mv.app (k + 5) (k + 2) ⟨by omega, by omega⟩ ⟨by omega, by omega⟩ (wk_low (by omega) (by simp -dsimp -implicitDefEqProofs only [go_sem, hz, hpos, frz_rows (spL_clean s i), List.map_append, Flt.row, eq_self, ↓reduceIte]) (by simp -dsimp -implicitDefEqProofs only [go_sem, hz, hpos, frz_rows (spL_clean s i), List.map_append, Flt.row, eq_self, ↓reduceIte]) (by simp -dsimp -implicitDefEqProofs only [go_sem, hz, hpos, frz_rows (spL_clean s i), List.map_append, Flt.row, eq_self, ↓reduceIte]) (by simp -dsimp -implicitDefEqProofs only [go_sem, hz, hpos, frz_rows (spL_clean s i), List.map_append, Flt.row, eq_self, ↓reduceIte]))
  · have hi' : i = s.ns := by omega
    subst hi'
    have hv : VLe (rows 1 (spL s s.ns)) (.rd 1 s.ns (ssf s)) := by
      rw [rows, spL_len]
      exact VLe.copy' _ _ _
    refine W_mv (Mv.frz_at (id := k + 2) (s := 1) (l := spL s s.ns) 4 (.rd 1 s.ns (ssf s)) [(k + 1, ⟨7, true, [zst]⟩), (k, ⟨7, true, [s.cells]⟩)] (by simp -dsimp -implicitDefEqProofs only [go_sem, List.map_append, Flt.row, eq_self, ↓reduceIte]) (by simp -dsimp -implicitDefEqProofs only [go_sem, List.map_append, Flt.row, eq_self, ↓reduceIte]) hv (by simp -dsimp -implicitDefEqProofs only [go_sem, List.map_append, Flt.row, eq_self, ↓reduceIte]) (by simp -dsimp -implicitDefEqProofs only [go_sem, List.map_append, Flt.row, eq_self, ↓reduceIte])) ?_
    refine rR ?_; apply zN
    have uU := @h0
    refine dl [.ret (.agg s.cfg), .ret (.rd 1 s.nk (kf s)), .ret (.rd 1 s.nu (uf s))] ?_; refine zq4 ⟨⟨⟨?_⟩⟩⟩ ⟨⟨⟨?_⟩⟩⟩ ⟨⟨⟨?_⟩⟩⟩ ⟨⟨⟨?_⟩⟩⟩
    · exact copyConfig s hs
    · exact copyInts s.nk s.clk hnk
    · exact copyInts s.nu s.cur hnu
    refine wl ?_; refine zq1 ⟨⟨⟨?_⟩⟩⟩
    have uU := @h0; refine cR ?_; apply zN
    exact VLe.refl _
set_option maxHeartbeats 8000000 in
theorem spoiltN0 (s : St) (hs : s.Small) (h0 : s.nt = 0) (w : Nat) (hw : w < 40) :
    AM.Pure Tryz.prog Γ 23 [.agg s.cells, .lit (.int .i64 (w : Int))] (.agg (cellsZ s)) := by
  have hco := copyState0 s hs h0 (Γ := Γ)
  rw [cellsZ_zero h0] at hco ⊢
  refine Pure_at Tryz.func23 rfl 340 rfl (Nat.le_of_ble_eq_true rfl) rfl fun k => ?_
  have kp : Kp [0,1,2,4,5,6,61,69,79,83,87,95,102,109,117,124,131,137,147,159,164,169,177,182,187,192,197,213,222,227,233,238,243,248,253,258,263,268,273,278,283,291,299,307,315,323,331] (fun i => i - k) := kpI
  refine wl ?_; refine zq1 ⟨⟨⟨?_⟩⟩⟩
  refine cl [.ret (.agg [.lit (.int .i64 s.cpus), .lit (.int .u64 s.credit), .rd 2 s.ng (gf s), .rd 1 s.nk (kf s), .rd 1 s.nu (uf s), .lit (.slice none 0 0), .rd 1 s.ns (ssf s)])] ?_; refine zq2 ⟨⟨⟨?_⟩⟩⟩ ⟨⟨⟨?_⟩⟩⟩
  all_goals (try exact hco)
  (repeat' (first | (refine C_seq rfl ?_) | (refine C_block rfl ?_) | (refine C_skip rfl ?_; (try simp -dsimp -implicitDefEqProofs only [go_sem, eq_self, ↓reduceIte])) | (refine C_exit rfl ?_; (try simp -dsimp -implicitDefEqProofs only [go_sem, eq_self, ↓reduceIte])) | (refine C_cond rfl _ rfl (fun ht => ?_) (fun ht => ?_) <;> (try (simp only [nf] at ht)) <;> (try (exfalso; omega))) | ((first | (refine S_reg0 rfl [0,1,2,4,5,6,61,69,79,83,87,95,102,109,117,124,131,137,147,159,164,169,177,182,187,192,197,213,222,227,233,238,243,248,253,258,263,268,273,278,283,291,299,307,315,323,331] rfl rfl (fun K hK => ?_)) | (refine S_drw0 rfl [0,1,2,4,5,6,61,69,79,83,87,95,102,109,117,124,131,137,147,159,164,169,177,182,187,192,197,213,222,227,233,238,243,248,253,258,263,268,273,278,283,291,299,307,315,323,331] rfl (by kernel_rfl) rfl (fun K hK => ?_))); simp -dsimp -implicitDefEqProofs only [go_sem, eq_self, ↓reduceIte]; (repeat' (first | (refine And.intro ?_ ?_) | (refine gs_both (fun hb => ?_) (fun hb => ?_) <;> (have hg := hb; (try simp only [nfb] at hg); simp -dsimp -implicitDefEqProofs only [go_sem, hb, hg, eq_self, ↓reduceIte]; clear hb; (try simp only [nfe] at hg))))); any_goals ((first | (refine hK _ _ _ _ (fun hx => ?_)) | (refine hK _ _ _ _ (drawA (fun i => i - k)) (fun hx => ?_)) | (refine hK _ _ _ _ drawB (fun hx => ?_))); clear hx hK; simp -dsimp -implicitDefEqProofs only [go_sem, eq_self, ↓reduceIte]; (try simp (disch := omega) only [wrap_i64, wrap_u64, wrap_u32, wrap_u8]))) | omega))
  all_goals (refine C_ret rfl ?_; (refine rR ?_; apply zN))
  all_goals exact ⟨_, rfl, VLe.refl _⟩
theorem PreS.mono {s : St} {b b' : Nat} (h : PreS s b) (hb : b ≤ b') : PreS s b' :=
  h.of hb h.ng (by have := h.nk; omega) (by have := h.nu; omega) h.nt h.ns (fun g hg => ⟨h.p0 g hg, by have := h.p1 g hg; omega⟩) h.c0 h.tkr h.spr
theorem spoilS_nt (s : St) (w : Nat) : (spoilS s w).nt = s.nt := by
  unfold spoilS
  split <;> rfl
theorem spoilt_ex (Γ : List (Nat × List AVal)) {s : St} {b : Nat} (h : PreS s b) (hb : b ≤ 6) (w : Nat) (hw : w < 40) : ∃ s', PreS s' (b + 1) ∧ AM.Pure Tryz.prog Γ 23 [.agg s.cells, .lit (.int .i64 (w : Int))] (.agg (cellsZ s')) := by
  by_cases hF : Full s
  · refine ⟨spoilS s w, h.spoil hF hw, ?_⟩
    rw [cellsZ_pos (show 0 < (spoilS s w).nt by rw [spoilS_nt]; have := hF.nt; omega)]
    exact spoiltF s (h.small (by omega)) hF h.p0 w hw
  · refine ⟨s, h.mono (Nat.le_succ _), ?_⟩
    by_cases h0 : s.nt = 0
    · exact spoiltN0 s (h.small (by omega)) h0 w hw
    · rw [cellsZ_pos (by omega)]
      exact spoiltN s (h.small (by omega)) hF w hw
theorem toL_pre {s : St} {b : Nat} (h : PreS s b) : PreS (toL s).st b := by
  have e1 : (toL s).st.ng = s.ng := by simp [toL, LSt.st]
  have e2 : (toL s).st.nk = s.nk := by simp [toL, LSt.st]
  have e3 : (toL s).st.nu = s.nu := by simp [toL, LSt.st]
  have e4 : (toL s).st.nt = s.nt := by simp [toL, LSt.st]
  have e5 : (toL s).st.ns = s.ns := by simp [toL, LSt.st]
  refine h.of (Nat.le_refl _) (by rw [e1]; exact h.ng) (by rw [e2]; exact h.nk) (by rw [e3]; exact h.nu) (by rw [e4]; exact h.nt) (by rw [e5]; exact h.ns) (fun g hg => ?_) h.c0 (fun i => ?_) (fun g c => ?_)
  · rw [e5] at hg
    have e6 : (toL s).st.nsp g = s.nsp g := by
      show (((toL s).sl.getD g []).length) = _
      simp only [toL]
      rw [getD_rng hg]; simp
    rw [e6]
    exact ⟨h.p0 g hg, h.p1 g hg⟩
  · show TkR ((toL s).tl.getD i default)
    by_cases hi : i < s.nt
    · simp only [toL]
      rw [getD_rng hi]
      exact h.tkr i
    · rw [getD_out (by simp [toL]; omega)]
      exact ⟨Int.le_refl _, by decide, Int.le_refl _, by decide, Int.le_refl _⟩
  · show SpR (((toL s).sl.getD g []).getD c default)
    by_cases hg : g < s.ns
    · simp only [toL]
      rw [getD_rng hg]
      by_cases hc : c < s.nsp g
      · rw [getD_rng hc]
        exact h.spr g c
      · rw [getD_out (by simp; omega)]
        exact ⟨Int.le_refl _, by decide, Int.le_refl _, Int.le_refl _, by decide⟩
    · rw [getD_out (l := (toL s).sl) (by simp [toL]; omega)]
      exact ⟨Int.le_refl _, by show (0 : Int) ≤ 18446744073709551615; decide, Int.le_refl _, Int.le_refl _, by show (0 : Int) ≤ 18446744073709551615; decide⟩
theorem vle1 {a b : AVal} (h : VLe a b) : VLes [a] [b] := .cons h .nil
def chk0 (s : St) : List Flt := checkR (toL s).st
theorem checkC (Γ : List (Nat × List AVal)) {s : St} {b : Nat} (h : PreS s b) (hb : b ≤ 8) : AM.Pure Tryz.prog Γ 20 [.agg s.cells] (rows 3 ((chk0 s).map Flt.row)) := by
  have hp := toL_pre h
  exact Pure_arg (check_eq (toL s).st (hp.pre hb) hp.k) (vle1 (toL_le s))
theorem checkZ (Γ : List (Nat × List AVal)) {s : St} {b : Nat} (h : PreS s b) (hb : b ≤ 8) : AM.Pure Tryz.prog Γ 20 [.agg (cellsZ s)] (rows 3 ((chk0 s).map Flt.row)) := Pure_arg (checkC Γ h hb) (vle1 (cellsZ_le s))
theorem rightL (Γ : List (Nat × List AVal)) (L : LSt) {b : Nat} (hp : PreS L.st b) (hb : b ≤ 8) : AM.Pure Tryz.prog Γ 22 [.agg L.st.cells] (.lit (.bool (checkR L.st).isEmpty)) := by
  obtain ⟨n, hn⟩ : ∃ n, L.cpus.toNat = n := ⟨_, rfl⟩
  have hiff := right_iff hp hn
  have hsm := hp.small hb
  rw [show (checkR L.st).isEmpty = decide (checkR L.st = []) by cases checkR L.st <;> rfl]
  by_cases hc : refCfg L.st = true
  rotate_left 1
  · rw [decide_eq_false (fun e => hc (hiff.1 e).1)]
    exact mrightF L.st (mshapedF L.st (by rw [cfg_eq]; simpa using hc))
  obtain ⟨⟨r1, r2, r3, r4, r5, r6, r7⟩, _⟩ := refCfg_spec hc
  have r1 : 1 ≤ L.cpus := r1
  have r2 : L.cpus ≤ 64 := r2
  have hcn : L.st.cpus = n := by show L.cpus = n; omega
  obtain ⟨sb, hsb⟩ : ∃ sb : Bool, sb = true ↔ ShP L.st n := ⟨@decide (ShP L.st n) (Classical.propDecidable _), by simp⟩
  have hsh := mshaped L.st hsm hp.k n (by omega) (by omega) hcn (by rw [cfg_eq]; exact hc) (cfg_wt hc) sb hsb (Γ := Γ)
  by_cases hS : ShP L.st n
  rotate_left 1
  · have e : sb = false := by
      cases sb with
      | false => rfl
      | true => exact absurd (hsb.1 rfl) hS
    rw [e] at hsh
    rw [decide_eq_false (fun e => hS (hiff.1 e).2.1)]
    exact mrightF L.st hsh
  · rw [hsb.2 hS] at hsh
    have hlen : L.sl.length = L.gl.length := hS.ns
    have r4 : 1 ≤ L.gl.length := r4
    refine mright L n hsm hsh hS (sorted_of fun i hi h0 => (hS.tk i hi).1 h0) ⟨hlen.symm, fun g hg => (hS.sp g hg).1, by have : L.tl.length ≤ 100 := hp.nt; omega, by have : L.sl.length ≤ 6 := hp.ns; omega, fun i hi => ?_, fun g c hg hcc => (hp.spr g c).2.1⟩ (by omega) _ ?_
    · obtain ⟨b1, b2, _⟩ := okTk_iff.1 (hS.tk i hi).2
      exact ⟨by have b1 : 1 ≤ (L.tsk i).id := b1; omega, b2, (hp.tkr i).2.2.2.1⟩
    · rw [decide_eq_true_eq, hiff]
      exact ⟨fun h => h.2.2, fun h => ⟨hc, hS, h⟩⟩
theorem rightC (Γ : List (Nat × List AVal)) {s : St} {b : Nat} (h : PreS s b) (hb : b ≤ 8) : AM.Pure Tryz.prog Γ 22 [.agg s.cells] (.lit (.bool (chk0 s).isEmpty)) := Pure_arg (rightL Γ (toL s) (toL_pre h) hb) (vle1 (toL_le s))
theorem rightZ (Γ : List (Nat × List AVal)) {s : St} {b : Nat} (h : PreS s b) (hb : b ≤ 8) : AM.Pure Tryz.prog Γ 22 [.agg (cellsZ s)] (.lit (.bool (chk0 s).isEmpty)) := Pure_arg (rightC Γ h hb) (vle1 (cellsZ_le s))
theorem Rt0.pre {L : LSt} {n : Nat} (h : Rt0 L n) (h4 : n ≤ 4) (h6 : L.sl.length ≤ 6) (ht : L.tl.length ≤ 100) : PreS L.st 0 := by
  have htk : ∀ i, 0 ≤ (L.tsk i).v := fun i => by
    by_cases hi : i < L.tl.length
    · exact (h.tk i hi).v0
    · have e : L.tsk i = default := by unfold LSt.tsk; exact getD_out (by omega)
      rw [e]; exact Int.le_refl _
  have hsp : ∀ g c, 0 ≤ (L.sp g c).floor ∧ (L.sp g c).floor ≤ 18446744073709551615 := fun g c => by
    by_cases hg : g < L.sl.length
    · by_cases hc : c < n
      · exact (h.sp g c hg hc).2.2.2.2
      · have e : L.sp g c = default := by unfold LSt.sp; exact getD_out (by rw [h.rows g hg]; omega)
        rw [e]; exact ⟨Int.le_refl _, by decide⟩
    · have e : L.sp g c = default := by unfold LSt.sp; rw [getD_out (l := L.sl) (by omega)]; rfl
      rw [e]; exact ⟨Int.le_refl _, by decide⟩
  have hn1 := h.n1
  exact ⟨by show L.gl.length ≤ 6; rw [h.ng]; exact h6, by show L.kl.length ≤ 4 + 0; rw [h.nk]; omega, by show L.ul.length ≤ 4 + 0; rw [h.nu]; omega, ht, h6, fun g hg => by show 0 < (L.sl.getD g []).length; rw [h.rows g hg]; omega, fun g hg => by show (L.sl.getD g []).length ≤ 4 + 0; rw [h.rows g hg]; omega, h.cr0, h.kinds, htk, fun g c => (hsp g c).1, fun g c => (hsp g c).2⟩
def loadR (s : St) : AVal := if (chk0 s).isEmpty = true then .tup [.rp (s.cells ++ [.lit (.bool true)]), .lit (.int .i64 0)] else .tup [.lit (.pointer none), .lit (.int .i64 2)]
theorem right_bounds {s : St} {b : Nat} (h : PreS s b) (hr : (chk0 s).isEmpty = true) : 0 < s.ng ∧ 0 < s.nk ∧ 0 < s.nu ∧ 0 < s.ns := by
  obtain ⟨h0, hc⟩ := rt0_check (toL_pre h) rfl (List.isEmpty_iff.1 hr)
  have n1 := h0.n1
  have h1 := h0.ng
  have h2 := h0.nk
  have h3 := h0.nu
  have h4 := h0.ns1
  simp only [toL, List.length_map, List.length_range] at h1 h2 h3 h4
  simp only [toL] at n1
  omega
theorem loadZ (Γ : List (Nat × List AVal)) {s : St} {b : Nat} (h : PreS s b) (hb : b ≤ 8) : AM.Pure Tryz.prog Γ 24 [.agg (cellsZ s)] (loadR s) := by
  have hr := rightZ Γ h hb
  unfold loadR
  obtain ⟨C, eC⟩ : ∃ C, C = cellsZ s := ⟨_, rfl⟩
  have hl : C.length = 7 := by rw [eC]; rfl
  have ht : C.take 7 = C := by rw [eC]; rfl
  have ho : C.all AM.one = true := by rw [eC]; unfold cellsZ; split <;> rfl
  have hcl : C.all clean = true := by rw [eC]; unfold cellsZ; split <;> rfl
  have hbd : ∀ p : Nat → Bool, C.all (bd0 p) = true := fun p => by rw [eC]; unfold cellsZ; split <;> rfl
  have hdr : List.drop 7 C = [] := by rw [eC]; rfl
  by_cases he : (chk0 s).isEmpty = true
  · rw [if_pos he]
    obtain ⟨b1, b2, b3, b4⟩ := right_bounds h he
    have hco : AM.Pure Tryz.prog Γ 30 [.agg C] (.agg s.cells) := by
      rw [eC]
      by_cases h0 : s.nt = 0
      · rw [cellsZ_zero h0]
        exact copiedP0 s (h.small hb) b1 b2 b3 b4 h.p0 h0
      · rw [cellsZ_pos (by omega)]
        exact copiedP1 s (h.small hb) b1 b2 b3 b4 h.p0 (by omega)
    rw [he, ← eC] at hr
    rw [← eC]
    refine Pure_at Tryz.func24 rfl 11 rfl (Nat.le_of_ble_eq_true rfl) rfl fun k => ?_
    have kp : Kp [0,1,2,3,6] (fun i => i - k) := kpI
    have uU := zA @hl (zA @ht (zA @ho (zA @hcl (zA @hbd @hdr))))
    refine wl ?_; refine zq1 ⟨⟨⟨?_⟩⟩⟩
    refine cl [.ret (.lit (.bool true))] ?_; refine zq1 ⟨⟨⟨?_⟩⟩⟩
    all_goals (try exact hr)
    refine wl ?_; refine zq1 ⟨fun ht => ⟨⟨?_⟩⟩⟩
    refine cl [.ret (.agg s.cells)] ?_; refine zq2 ⟨⟨⟨?_⟩⟩⟩ ⟨⟨⟨?_⟩⟩⟩
    all_goals (try exact hco)
    refine W_mv (Mv.freeze (k + 1) (by simp -dsimp -implicitDefEqProofs only [go_sem, hl, ht, ho, hcl, hbd, hdr, eq_self, ↓reduceIte]; rfl) rfl) ?_; simp -dsimp -implicitDefEqProofs only [frzF, frz_app, go_sem, hl, ht, ho, hcl, hbd, hdr, eq_self, ↓reduceIte]
    have uU := zA @hl (zA @ht (zA @ho (zA @hcl (zA @hbd @hdr)))); refine cR ?_; apply zN
    exact VLe.refl _
  · rw [if_neg he]
    rw [show (chk0 s).isEmpty = false by simpa using he, ← eC] at hr
    rw [← eC]
    refine Pure_at Tryz.func24 rfl 11 rfl (Nat.le_of_ble_eq_true rfl) rfl fun k => ?_
    have kp : Kp [0,1,2,3,6] (fun i => i - k) := kpI
    have uU := zA @hl (zA @ht (zA @ho (zA @hcl (zA @hbd @hdr))))
    refine wl ?_; refine zq1 ⟨⟨⟨?_⟩⟩⟩
    refine cl [.ret (.lit (.bool false))] ?_; refine zq1 ⟨⟨⟨?_⟩⟩⟩
    all_goals (try exact hr)
    refine wl ?_; refine zq1 ⟨fun ht => ⟨⟨?_⟩⟩⟩
    have uU := zA @hl (zA @ht (zA @ho (zA @hcl (zA @hbd @hdr)))); refine cR ?_; apply zN
    exact VLe.refl _
end Go.Proofs.T
end
