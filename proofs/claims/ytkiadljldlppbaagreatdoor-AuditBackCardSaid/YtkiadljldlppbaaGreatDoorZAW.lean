import Derived.Test.YtkiadljldlppbaaGreatDoorZAV
import Derived.ChangeMaps5
import Derived.Lay
import Derived.MakeChecks
set_option linter.unusedVariables false
set_option linter.unusedSimpArgs false
section
namespace Go.Proofs.T
open Go Go.AM Go.Proofs
set_option maxRecDepth 20000
set_option maxHeartbeats 8000000 in
theorem auditBack (x : Nums) (hx : NumsOk x) (f : Nat → Sm) (hf : ∀ i, SmOk (f i)) (nl : Nat) (hnl : nl ≤ 9223372036854775807) (ct : Int) (hc0 : 0 ≤ ct) (hc1 : ct ≤ 255) :
    AM.Pure Tryz.prog [] 4 [.agg x.cells, .rd 8 nl (fun i => smc (f i)), .lit (.int .u8 ct)] (.lit (.bool true)) := by
  obtain ⟨n, ng, Ls, hM⟩ := lmades (Γ := []) x hx f hf
  obtain ⟨q, hq⟩ : ∃ q, q = min nl 40 := ⟨_, rfl⟩
  have hp0 := Int.emod_nonneg ct (b := (q : Int) + 1) (by omega)
  have hp1 := Int.emod_lt_of_pos ct (b := (q : Int) + 1) (by omega)
  obtain ⟨p, hp⟩ : ∃ p : Nat, ct % ((q : Int) + 1) = (p : Int) := ⟨(ct % ((q : Int) + 1)).toNat, by omega⟩
  rw [hp] at hp0 hp1
  have m1 := hM.made p 40 p (by omega) (by omega) (by omega) (by omega)
  have m2 := hM.made q 40 q (by omega) (by omega) (by omega) (by omega)
  obtain ⟨r1, r2, r3⟩ := hM.rt p (by omega)
  obtain ⟨s1, s2, s3⟩ := hM.rt q (by omega)
  have hn4 := hM.n4
  have hg6 := hM.g6
  have hlat := hM.lat p q (by omega) (by omega)
  have hst := mstep (Γ := []) (by omega) s1 r1 (by omega) (by omega)
  obtain ⟨a, ea⟩ : ∃ a, a = (Ls p).st := ⟨_, rfl⟩
  obtain ⟨b, eb⟩ : ∃ b, b = (Ls q).st := ⟨_, rfl⟩
  rw [← ea] at m1 hst
  rw [← eb] at m2 hst
  obtain ⟨NC, eNC⟩ : ∃ C, C = x.cells := ⟨_, rfl⟩
  obtain ⟨G, eG⟩ : ∃ G : Nat → List AVal, G = fun i => smc (f i) := ⟨_, rfl⟩
  have hNl : NC.length = 13 := by rw [eNC]; rfl
  have hNt : NC.take 13 = NC := by rw [eNC]; rfl
  have hNo : NC.all AM.one = true := by rw [eNC]; rfl
  have hNc : NC.all clean = true := by rw [eNC]; rfl
  have hNb0 : ∀ (p : Nat → Bool), NC.all (bd0 p) = true := fun p => by rw [eNC]; rfl
  have hNd0 : List.drop 13 NC = [] := by rw [eNC]; rfl
  have hsw : ∀ u v, NC.map (sw0 u v) = NC := fun u v => by rw [eNC]; rfl
  rw [← eNC, ← eG] at m1 m2 ⊢
  have h39 : IntKind.i64.wrap ((q : Int) + 1) = (q : Int) + 1 := wrap_i64 (by omega) (by omega)
  have hal : alB b a b.ng = true := by
    rw [eb, ea]
    have h1 := r1.r0.ng
    have h2 := s1.r0.ng
    simp only [alB, decide_eq_true_eq]
    exact ⟨hlat.cpus, hlat.credit, by show (Ls q).gl.length = (Ls p).gl.length; omega, fun g _ => hlat.par g⟩
  rw [if_neg (by rw [hal]; simp)] at hst
  obtain ⟨R, eR⟩ : ∃ R, R = (movesL b a).map Flt.row := ⟨_, rfl⟩
  rw [← eR, rows] at hst
  have ank : a.nk = n := by rw [ea]; exact r1.r0.nk
  have bnk : b.nk = n := by rw [eb]; exact s1.r0.nk
  have ans : a.ns = ng := by rw [ea]; exact r3
  have bns : b.ns = ng := by rw [eb]; exact s3
  have ansp : ∀ g, g < ng → a.nsp g = n := fun g h => by rw [ea]; exact r1.r0.rows g (by omega)
  have bnsp : ∀ g, g < ng → b.nsp g = n := fun g h => by rw [eb]; exact s1.r0.rows g (by omega)
  have mn : (if (n : Int) < (n : Int) then (n : Int) else (n : Int)) = (n : Int) := by split <;> rfl
  have mg : (if (ng : Int) < (ng : Int) then (ng : Int) else (ng : Int)) = (ng : Int) := by split <;> rfl
  have hnl : (movesL b a).length ≤ 100 := by
    have h1 := flats_len (f := backAt b a) (m := 1) (fun i => iff1_len1 _ _) b.nk
    have h2 := flats_len' (f := fellR b a) (m := 4) b.ns (fun g hg => by have := flats_len (f := fellAt b a g) (m := 1) (fun i => iff1_len1 _ _) (b.nsp g); have := bnsp g (by omega); unfold fellR; omega)
    unfold movesL; rw [List.length_append]; omega
  have hRl : R.length = (movesL b a).length := by rw [eR, List.length_map]
  have hl0 : ((R.length : Int) == (R.length : Int)) = true := by simp
  refine Pure_at Tryz.func4 rfl 160 rfl (Nat.le_of_ble_eq_true rfl) rfl fun k => ?_
  have hmin : (if (40 : Int) < (nl : Int) then (40 : Int) else (nl : Int)).toNat - 0 = q := by split <;> omega
  have hct : IntKind.i64.wrap ct = ct := wrap_i64 (by omega) (by omega)
  have hq1 : ((q : Int) + 1 = 0) = False := eq_false (by omega)
  have htm : ct.tmod ((q : Int) + 1) = (p : Int) := by rw [Int.tmod_eq_emod_of_nonneg hc0, hp]
  have kp : Kp [0,1,2,3,6,7,8,9,10,11,12,13,14,15,16,17,19,59,66,67,68,80,93,94,95,109,110,111,131,144,146,147,148,158] (fun i => i - k) := kpI
  have uU := zA @hNl (zA @hNt (zA @hNo (zA @hNc (zA @hNb0 (zA @hNd0 (zA @apN (zA @hmin (zA @hct (zA @h39 (zA @hq1 (zA @htm @Nat.sub_zero)))))))))))
  refine wl ?_ <;> and_intros <;> first | exact hdT | (apply zM; (repeat intro ht); apply zM; (repeat intro hg); apply zM)
  refine cl [.ret (.lit (.bool true))] ?_ <;> and_intros <;> first | exact hdT | (apply zM; (repeat intro ht); apply zM; (repeat intro hg); apply zM)
  · exact awake
  refine wl ?_ <;> and_intros <;> first | exact hdT | (apply zM; (repeat intro ht); apply zM; (repeat intro hg); apply zM)
  refine dl [.ret (.tup [.agg a.cells, .lit (.bool true)])] ?_ <;> and_intros <;> first | exact hdT | (apply zM; (repeat intro ht); apply zM; (repeat intro hg); apply zM)
  · exact m1
  have uU := zA @hNl (zA @hNt (zA @hNo (zA @hNc (zA @hNb0 (zA @hNd0 @apN)))))
  refine wl ?_ <;> and_intros <;> first | exact hdT | (apply zM; (repeat intro ht); apply zM; (repeat intro hg); apply zM)
  refine cl [.ret (.tup [.agg b.cells, .lit (.bool true)])] ?_ <;> and_intros <;> first | exact hdT | (apply zM; (repeat intro ht); apply zM; (repeat intro hg); apply zM)
  · exact m2
  refine wl ?_ <;> and_intros <;> first | exact hdT | (apply zM; (repeat intro ht); apply zM; (repeat intro hg); apply zM)
  refine cl [.ret (.tup [.rd 3 R.length (fun j => R.getD j []), .lit (.int .i64 0)])] ?_ <;> and_intros <;> first | exact hdT | (apply zM; (repeat intro ht); apply zM; (repeat intro hg); apply zM)
  · exact hst
  have uU := zA @hNl (zA @hNt (zA @hNo (zA @hNc (zA @hNb0 (zA @hNd0 (zA @apN (zA @ank (zA @bnk (zA @ans (zA @bns (zA @mn (zA @mg @hsw))))))))))))
  refine wl ?_ <;> and_intros <;> first | exact hdT | (apply zM; (repeat intro ht); apply zM; (repeat intro hg); apply zM)
  refine M_forO (X := Nat) rfl [0,1,2,3,6,7,8,9,10,11,12,13,14,15,16,17,19,59,66,67,68,80,93,94,95,109,110,111,131,144,146,147,148,158] (k + 4) (fun c => [(67, .lit (.int .i64 (c : Int))), (13, accV (k + 3) ((flats (backAt b a) c).map Flt.row))]) (fun c => accH (k + 3) 3 ((flats (backAt b a) c).map Flt.row) [(k + 2, ⟨7, true, [b.cells]⟩), (k + 1, ⟨7, true, [a.cells]⟩), (k, ⟨13, true, [NC]⟩)]) (fun c => c ≤ n) (fun c => n - c) 0 ?_ (Nat.zero_le _) ?_
  · rw [flats_zero, List.map_nil]
    refine rR ?_ <;> first | exact hdT | apply zN
    exact wkA (hf := by simp -dsimp -implicitDefEqProofs only [go_sem, hNl, hNt, hNo, hNc, hNb0, hNd0, List.append_nil, ank, bnk, ans, bns, mn, mg, hsw, List.map_append, List.map_cons, List.map_nil, Flt.row, eq_self, ↓reduceIte]) (hH := by simp -dsimp -implicitDefEqProofs only [go_sem, hNl, hNt, hNo, hNc, hNb0, hNd0, List.append_nil, ank, bnk, ans, bns, mn, mg, hsw, List.map_append, List.map_cons, List.map_nil, Flt.row, eq_self, ↓reduceIte]) (h := by simp -dsimp -implicitDefEqProofs only [go_sem, hNl, hNt, hNo, hNc, hNb0, hNd0, List.append_nil, ank, bnk, ans, bns, mn, mg, hsw, List.map_append, List.map_cons, List.map_nil, Flt.row, eq_self, ↓reduceIte]) (h' := by simp -dsimp -implicitDefEqProofs only [go_sem, hNl, hNt, hNo, hNc, hNb0, hNd0, List.append_nil, ank, bnk, ans, bns, mn, mg, hsw, List.map_append, List.map_cons, List.map_nil, Flt.row, eq_self, ↓reduceIte])
  intro c hc
  have hfl := flats_len (f := backAt b a) (m := 1) (fun c => iff1_len1 _ _) c
  obtain ⟨l1, e1, h1⟩ : ∃ x, x = flats (backAt b a) c ∧ x.length ≤ c := ⟨_, rfl, by omega⟩
  rw [← e1]
  have hsucc : flats (backAt b a) (c + 1) = l1 ++ backAt b a c := by rw [e1]; rfl
  refine rR ?_ <;> first | exact hdT | apply zN
  refine wl ?_ <;> and_intros <;> first | exact hdT | (apply zM; (repeat intro ht); apply zM; (repeat intro hg); apply zM)
  · refine ⟨c + 1, by omega, by omega, ?_⟩
    rw [hsucc, show backAt b a c = [⟨15, (c : Int), 0⟩] by rw [backAt, decide_eq_true (by omega)]; rfl]
    refine rR ?_ <;> first | exact hdT | apply zN
    exact Mv.app (k + 5) (k + 3) ⟨by omega, by omega⟩ ⟨by omega, by omega⟩ (wk_low (by omega) (by simp -dsimp -implicitDefEqProofs only [go_sem, hNl, hNt, hNo, hNc, hNb0, hNd0, List.append_nil, ank, bnk, ans, bns, mn, mg, hsw, List.map_append, List.map_cons, List.map_nil, Flt.row, eq_self, ↓reduceIte]) (by simp -dsimp -implicitDefEqProofs only [go_sem, hNl, hNt, hNo, hNc, hNb0, hNd0, List.append_nil, ank, bnk, ans, bns, mn, mg, hsw, List.map_append, List.map_cons, List.map_nil, Flt.row, eq_self, ↓reduceIte]) (by simp -dsimp -implicitDefEqProofs only [go_sem, hNl, hNt, hNo, hNc, hNb0, hNd0, List.append_nil, ank, bnk, ans, bns, mn, mg, hsw, List.map_append, List.map_cons, List.map_nil, Flt.row, eq_self, ↓reduceIte]) (by simp -dsimp -implicitDefEqProofs only [go_sem, hNl, hNt, hNo, hNc, hNb0, hNd0, List.append_nil, ank, bnk, ans, bns, mn, mg, hsw, List.map_append, List.map_cons, List.map_nil, Flt.row, eq_self, ↓reduceIte]))
  · refine ⟨c + 1, by omega, by omega, ?_⟩
    rw [hsucc, show backAt b a c = [] by rw [backAt, decide_eq_false (by omega)]; rfl, List.append_nil]
    refine rR ?_ <;> first | exact hdT | apply zN
    exact wkA (hf := by simp -dsimp -implicitDefEqProofs only [go_sem, hNl, hNt, hNo, hNc, hNb0, hNd0, List.append_nil, ank, bnk, ans, bns, mn, mg, hsw, List.map_append, List.map_cons, List.map_nil, Flt.row, eq_self, ↓reduceIte]) (hH := by simp -dsimp -implicitDefEqProofs only [go_sem, hNl, hNt, hNo, hNc, hNb0, hNd0, List.append_nil, ank, bnk, ans, bns, mn, mg, hsw, List.map_append, List.map_cons, List.map_nil, Flt.row, eq_self, ↓reduceIte]) (h := by simp -dsimp -implicitDefEqProofs only [go_sem, hNl, hNt, hNo, hNc, hNb0, hNd0, List.append_nil, ank, bnk, ans, bns, mn, mg, hsw, List.map_append, List.map_cons, List.map_nil, Flt.row, eq_self, ↓reduceIte]) (h' := by simp -dsimp -implicitDefEqProofs only [go_sem, hNl, hNt, hNo, hNc, hNb0, hNd0, List.append_nil, ank, bnk, ans, bns, mn, mg, hsw, List.map_append, List.map_cons, List.map_nil, Flt.row, eq_self, ↓reduceIte])
  have hcn : c = n := by omega
  subst hcn
  clear hsucc hfl
  refine M_forO (X := Nat) rfl [0,1,2,3,6,7,8,9,10,11,12,13,14,15,16,17,19,59,66,67,68,80,93,94,95,109,110,111,131,144,146,147,148,158] (k + 4) (fun g => [(94, .lit (.int .i64 (g : Int))), (13, accV (k + 3) ((l1 ++ flats (fellR b a) g).map Flt.row))]) (fun g => accH (k + 3) 3 ((l1 ++ flats (fellR b a) g).map Flt.row) [(k + 2, ⟨7, true, [b.cells]⟩), (k + 1, ⟨7, true, [a.cells]⟩), (k, ⟨13, true, [NC]⟩)]) (fun g => g ≤ ng) (fun g => ng - g) 0 ?_ (Nat.zero_le _) ?_
  · rw [flats_zero, List.append_nil]
    refine rR ?_ <;> first | exact hdT | apply zN
    exact wkA (hf := by simp -dsimp -implicitDefEqProofs only [go_sem, hNl, hNt, hNo, hNc, hNb0, hNd0, List.append_nil, ank, bnk, ans, bns, mn, mg, hsw, List.map_append, List.map_cons, List.map_nil, Flt.row, eq_self, ↓reduceIte]) (hH := by simp -dsimp -implicitDefEqProofs only [go_sem, hNl, hNt, hNo, hNc, hNb0, hNd0, List.append_nil, ank, bnk, ans, bns, mn, mg, hsw, List.map_append, List.map_cons, List.map_nil, Flt.row, eq_self, ↓reduceIte]) (h := by simp -dsimp -implicitDefEqProofs only [go_sem, hNl, hNt, hNo, hNc, hNb0, hNd0, List.append_nil, ank, bnk, ans, bns, mn, mg, hsw, List.map_append, List.map_cons, List.map_nil, Flt.row, eq_self, ↓reduceIte]) (h' := by simp -dsimp -implicitDefEqProofs only [go_sem, hNl, hNt, hNo, hNc, hNb0, hNd0, List.append_nil, ank, bnk, ans, bns, mn, mg, hsw, List.map_append, List.map_cons, List.map_nil, Flt.row, eq_self, ↓reduceIte])
  intro g hg2
  have hfl := flats_len' (f := fellR b a) (m := 4) g (fun g' hg' => by have := flats_len (f := fellAt b a g') (m := 1) (fun i => iff1_len1 _ _) (b.nsp g'); have := bnsp g' (by omega); unfold fellR; omega)
  obtain ⟨l2, e2', h2⟩ : ∃ x, x = l1 ++ flats (fellR b a) g ∧ x.length ≤ l1.length + g * 4 := ⟨_, rfl, by simp; omega⟩
  rw [← e2']
  refine rR ?_ <;> first | exact hdT | apply zN
  by_cases hgn : g < ng
  · have hsucc2 : l1 ++ flats (fellR b a) (g + 1) = l2 ++ flats (fellAt b a g) c := by rw [e2', flats_succ, List.append_assoc, fellR, bnsp g hgn]
    have ap := ansp g hgn
    have bp := bnsp g hgn
    have uU := zA @hNl (zA @hNt (zA @hNo (zA @hNc (zA @hNb0 (zA @hNd0 (zA @apN (zA @ank (zA @bnk (zA @ans (zA @bns (zA @mn (zA @mg (zA @hsw (zA @ap @bp))))))))))))))
    refine wl ?_ <;> and_intros <;> first | exact hdT | (apply zM; (repeat intro ht); apply zM; (repeat intro hg); apply zM)
    refine M_forO (X := Nat) rfl [0,1,2,3,6,7,8,9,10,11,12,13,14,15,16,17,19,59,66,67,68,80,93,94,95,109,110,111,131,144,146,147,148,158] (k + 4) (fun j => [(110, .lit (.int .i64 (j : Int))), (13, accV (k + 3) ((l2 ++ flats (fellAt b a g) j).map Flt.row))]) (fun j => accH (k + 3) 3 ((l2 ++ flats (fellAt b a g) j).map Flt.row) [(k + 2, ⟨7, true, [b.cells]⟩), (k + 1, ⟨7, true, [a.cells]⟩), (k, ⟨13, true, [NC]⟩)]) (fun j => j ≤ c) (fun j => c - j) 0 ?_ (Nat.zero_le _) ?_
    · rw [flats_zero, List.append_nil]
      refine rR ?_ <;> first | exact hdT | apply zN
      exact wkA (hf := by simp -dsimp -implicitDefEqProofs only [go_sem, hNl, hNt, hNo, hNc, hNb0, hNd0, List.append_nil, ank, bnk, ans, bns, mn, mg, hsw, ap, bp, List.map_append, List.map_cons, List.map_nil, Flt.row, eq_self, ↓reduceIte]) (hH := by simp -dsimp -implicitDefEqProofs only [go_sem, hNl, hNt, hNo, hNc, hNb0, hNd0, List.append_nil, ank, bnk, ans, bns, mn, mg, hsw, ap, bp, List.map_append, List.map_cons, List.map_nil, Flt.row, eq_self, ↓reduceIte]) (h := by simp -dsimp -implicitDefEqProofs only [go_sem, hNl, hNt, hNo, hNc, hNb0, hNd0, List.append_nil, ank, bnk, ans, bns, mn, mg, hsw, ap, bp, List.map_append, List.map_cons, List.map_nil, Flt.row, eq_self, ↓reduceIte]) (h' := by simp -dsimp -implicitDefEqProofs only [go_sem, hNl, hNt, hNo, hNc, hNb0, hNd0, List.append_nil, ank, bnk, ans, bns, mn, mg, hsw, ap, bp, List.map_append, List.map_cons, List.map_nil, Flt.row, eq_self, ↓reduceIte])
    intro j hj
    have hfi := flats_len (f := fellAt b a g) (m := 1) (fun i => iff1_len1 _ _) j
    obtain ⟨l3, e3', h3⟩ : ∃ x, x = l2 ++ flats (fellAt b a g) j ∧ x.length ≤ l2.length + j := ⟨_, rfl, by simp; omega⟩
    rw [← e3']
    have hsucc3 : l2 ++ flats (fellAt b a g) (j + 1) = l3 ++ fellAt b a g j := by rw [e3', flats_succ, List.append_assoc]
    refine rR ?_ <;> first | exact hdT | apply zN
    refine wl ?_ <;> and_intros <;> first | exact hdT | (apply zM; (repeat intro ht); apply zM; (repeat intro hg); apply zM)
    · refine ⟨j + 1, by omega, by omega, ?_⟩
      rw [hsucc3, show fellAt b a g j = [⟨16, (g : Int), (j : Int)⟩] by rw [fellAt, decide_eq_true (by omega)]; rfl]
      refine rR ?_ <;> first | exact hdT | apply zN
      exact Mv.app (k + 5) (k + 3) ⟨by omega, by omega⟩ ⟨by omega, by omega⟩ (wk_low (by omega) (by simp -dsimp -implicitDefEqProofs only [go_sem, hNl, hNt, hNo, hNc, hNb0, hNd0, List.append_nil, ank, bnk, ans, bns, mn, mg, hsw, ap, bp, List.map_append, List.map_cons, List.map_nil, Flt.row, eq_self, ↓reduceIte]) (by simp -dsimp -implicitDefEqProofs only [go_sem, hNl, hNt, hNo, hNc, hNb0, hNd0, List.append_nil, ank, bnk, ans, bns, mn, mg, hsw, ap, bp, List.map_append, List.map_cons, List.map_nil, Flt.row, eq_self, ↓reduceIte]) (by simp -dsimp -implicitDefEqProofs only [go_sem, hNl, hNt, hNo, hNc, hNb0, hNd0, List.append_nil, ank, bnk, ans, bns, mn, mg, hsw, ap, bp, List.map_append, List.map_cons, List.map_nil, Flt.row, eq_self, ↓reduceIte]) (by simp -dsimp -implicitDefEqProofs only [go_sem, hNl, hNt, hNo, hNc, hNb0, hNd0, List.append_nil, ank, bnk, ans, bns, mn, mg, hsw, ap, bp, List.map_append, List.map_cons, List.map_nil, Flt.row, eq_self, ↓reduceIte]))
    · refine ⟨j + 1, by omega, by omega, ?_⟩
      rw [hsucc3, show fellAt b a g j = [] by rw [fellAt, decide_eq_false (by omega)]; rfl, List.append_nil]
      refine rR ?_ <;> first | exact hdT | apply zN
      exact wkA (hf := by simp -dsimp -implicitDefEqProofs only [go_sem, hNl, hNt, hNo, hNc, hNb0, hNd0, List.append_nil, ank, bnk, ans, bns, mn, mg, hsw, ap, bp, List.map_append, List.map_cons, List.map_nil, Flt.row, eq_self, ↓reduceIte]) (hH := by simp -dsimp -implicitDefEqProofs only [go_sem, hNl, hNt, hNo, hNc, hNb0, hNd0, List.append_nil, ank, bnk, ans, bns, mn, mg, hsw, ap, bp, List.map_append, List.map_cons, List.map_nil, Flt.row, eq_self, ↓reduceIte]) (h := by simp -dsimp -implicitDefEqProofs only [go_sem, hNl, hNt, hNo, hNc, hNb0, hNd0, List.append_nil, ank, bnk, ans, bns, mn, mg, hsw, ap, bp, List.map_append, List.map_cons, List.map_nil, Flt.row, eq_self, ↓reduceIte]) (h' := by simp -dsimp -implicitDefEqProofs only [go_sem, hNl, hNt, hNo, hNc, hNb0, hNd0, List.append_nil, ank, bnk, ans, bns, mn, mg, hsw, ap, bp, List.map_append, List.map_cons, List.map_nil, Flt.row, eq_self, ↓reduceIte])
    · have hcn : j = c := by omega
      refine ⟨g + 1, by omega, by omega, ?_⟩
      rw [hsucc2, ← hcn, ← e3']
      refine rR ?_ <;> first | exact hdT | apply zN
      subst hcn
      exact wkA (hf := by simp -dsimp -implicitDefEqProofs only [go_sem, hNl, hNt, hNo, hNc, hNb0, hNd0, List.append_nil, ank, bnk, ans, bns, mn, mg, hsw, ap, bp, List.map_append, List.map_cons, List.map_nil, Flt.row, eq_self, ↓reduceIte]) (hH := by simp -dsimp -implicitDefEqProofs only [go_sem, hNl, hNt, hNo, hNc, hNb0, hNd0, List.append_nil, ank, bnk, ans, bns, mn, mg, hsw, ap, bp, List.map_append, List.map_cons, List.map_nil, Flt.row, eq_self, ↓reduceIte]) (h := by simp -dsimp -implicitDefEqProofs only [go_sem, hNl, hNt, hNo, hNc, hNb0, hNd0, List.append_nil, ank, bnk, ans, bns, mn, mg, hsw, ap, bp, List.map_append, List.map_cons, List.map_nil, Flt.row, eq_self, ↓reduceIte]) (h' := by simp -dsimp -implicitDefEqProofs only [go_sem, hNl, hNt, hNo, hNc, hNb0, hNd0, List.append_nil, ank, bnk, ans, bns, mn, mg, hsw, ap, bp, List.map_append, List.map_cons, List.map_nil, Flt.row, eq_self, ↓reduceIte])
  · have hgn : g = ng := by omega
    subst hgn
    have hl2 : movesL b a = l2 := by rw [e2', e1, ← bnk, ← bns]; rfl
    have eR2 : l2.map Flt.row = R := by rw [eR, hl2]
    rw [eR2]
    have hlen : R.length ≤ 100 := by omega
    refine wl ?_ <;> and_intros <;> first | exact hdT | (apply zM; (repeat intro ht); apply zM; (repeat intro hg); apply zM)
    refine W_mv (Mv.wk (fr1 := [(147, .lit (.int .i64 0)), (146, .lit (.int .i64 (R.length : Int))), (11, .rd 3 R.length (fun j => R.getD j [])), (13, accV (k + 3) R)]) (k1 := k + 4) (H1 := accH (k + 3) 3 R []) (wk_low (by omega) (by simp -dsimp -implicitDefEqProofs only [go_sem, hNl, hNt, hNo, hNc, hNb0, hNd0, List.append_nil, ank, bnk, ans, bns, mn, mg, hsw, List.map_append, List.map_cons, List.map_nil, Flt.row, eq_self, ↓reduceIte]) (by simp -dsimp -implicitDefEqProofs only [go_sem, hNl, hNt, hNo, hNc, hNb0, hNd0, List.append_nil, ank, bnk, ans, bns, mn, mg, hsw, List.map_append, List.map_cons, List.map_nil, Flt.row, eq_self, ↓reduceIte]) (by simp -dsimp -implicitDefEqProofs only [go_sem, hNl, hNt, hNo, hNc, hNb0, hNd0, List.append_nil, ank, bnk, ans, bns, mn, mg, hsw, List.map_append, List.map_cons, List.map_nil, Flt.row, eq_self, ↓reduceIte]) (by simp -dsimp -implicitDefEqProofs only [go_sem, hNl, hNt, hNo, hNc, hNb0, hNd0, List.append_nil, ank, bnk, ans, bns, mn, mg, hsw, List.map_append, List.map_cons, List.map_nil, Flt.row, eq_self, ↓reduceIte]))) ?_
    refine W_mv (Mv.frz_at (id := k + 3) (s := 3) (l := R) 13 (rows 3 R) [] (by simp -dsimp -implicitDefEqProofs only [go_sem, hNl, hNt, hNo, hNc, hNb0, hNd0, List.append_nil, ank, bnk, ans, bns, mn, mg, hsw, List.map_append, List.map_cons, List.map_nil, Flt.row, eq_self, ↓reduceIte]) (by simp -dsimp -implicitDefEqProofs only [go_sem, hNl, hNt, hNo, hNc, hNb0, hNd0, List.append_nil, ank, bnk, ans, bns, mn, mg, hsw, List.map_append, List.map_cons, List.map_nil, Flt.row, eq_self, ↓reduceIte]) (VLe.refl _) (by simp -dsimp -implicitDefEqProofs only [go_sem, hNl, hNt, hNo, hNc, hNb0, hNd0, List.append_nil, ank, bnk, ans, bns, mn, mg, hsw, List.map_append, List.map_cons, List.map_nil, Flt.row, eq_self, ↓reduceIte]) (by simp -dsimp -implicitDefEqProofs only [go_sem, hNl, hNt, hNo, hNc, hNb0, hNd0, List.append_nil, ank, bnk, ans, bns, mn, mg, hsw, List.map_append, List.map_cons, List.map_nil, Flt.row, eq_self, ↓reduceIte])) ?_
    rw [rows]
    refine rR ?_ <;> first | exact hdT | apply zN
    refine M_forO (X := Nat) rfl [0,1,2,3,6,7,8,9,10,11,12,13,14,15,16,17,19,59,66,67,68,80,93,94,95,109,110,111,131,144,146,147,148,158] (k + 4) (fun j => [(147, .lit (.int .i64 (j : Int)))]) (fun _ => []) (fun j => j ≤ R.length) (fun j => R.length - j) 0 ?_ (Nat.zero_le _) ?_
    · refine rR ?_ <;> first | exact hdT | apply zN
      exact wkA (hf := by simp -dsimp -implicitDefEqProofs only [go_sem, hNl, hNt, hNo, hNc, hNb0, hNd0, List.append_nil, ank, bnk, ans, bns, mn, mg, hsw, List.map_append, List.map_cons, List.map_nil, Flt.row, eq_self, ↓reduceIte]) (hH := by simp -dsimp -implicitDefEqProofs only [go_sem, hNl, hNt, hNo, hNc, hNb0, hNd0, List.append_nil, ank, bnk, ans, bns, mn, mg, hsw, List.map_append, List.map_cons, List.map_nil, Flt.row, eq_self, ↓reduceIte]) (h := by simp -dsimp -implicitDefEqProofs only [go_sem, hNl, hNt, hNo, hNc, hNb0, hNd0, List.append_nil, ank, bnk, ans, bns, mn, mg, hsw, List.map_append, List.map_cons, List.map_nil, Flt.row, eq_self, ↓reduceIte]) (h' := by simp -dsimp -implicitDefEqProofs only [go_sem, hNl, hNt, hNo, hNc, hNb0, hNd0, List.append_nil, ank, bnk, ans, bns, mn, mg, hsw, List.map_append, List.map_cons, List.map_nil, Flt.row, eq_self, ↓reduceIte])
    intro j hj
    refine rR ?_ <;> first | exact hdT | apply zN
    by_cases hjl : j < R.length
    · obtain ⟨z, hz⟩ : ∃ z : Flt, R.getD j [] = [.lit (.int .u8 z.r), .lit (.int .i64 z.a), .lit (.int .i64 z.b)] := by
        rw [eR, List.length_map] at hjl
        exact ⟨(movesL b a)[j], by simp [eR, List.getD_eq_getElem?_getD, hjl, Flt.row]⟩
      have uU := @hz
      refine wl ?_ <;> and_intros <;> first | exact hdT | (apply zM; (repeat intro ht); apply zM; (repeat intro hg); apply zM)
      refine ⟨j + 1, by omega, by omega, ?_⟩
      refine rR ?_ <;> first | exact hdT | apply zN
      exact wkA (hf := by simp -dsimp -implicitDefEqProofs only [go_sem, hz, List.map_append, List.map_cons, List.map_nil, Flt.row, eq_self, ↓reduceIte]) (hH := by simp -dsimp -implicitDefEqProofs only [go_sem, hz, List.map_append, List.map_cons, List.map_nil, Flt.row, eq_self, ↓reduceIte]) (h := by simp -dsimp -implicitDefEqProofs only [go_sem, hz, List.map_append, List.map_cons, List.map_nil, Flt.row, eq_self, ↓reduceIte]) (h' := by simp -dsimp -implicitDefEqProofs only [go_sem, hz, List.map_append, List.map_cons, List.map_nil, Flt.row, eq_self, ↓reduceIte])
    · have hjl : j = R.length := by omega
      subst hjl
      have uU := Go.AM.uU
      refine wl ?_ <;> and_intros <;> first | exact hdT | (apply zM; (repeat intro ht); apply zM; (repeat intro hg); apply zM)
      refine C_ret rfl ⟨_, rfl, VLe.refl _⟩
end Go.Proofs.T
end
section
namespace Go.Proofs.T
open Go Go.AM Go.Proofs Go.ChangeMaps Go.ChangeShapes Go.WideShapes Go.ChangeAt Go.WideMaps Go.WideElems Go.RowKit Go.Proofs.YtkiadljldlppbaaGreatDoor
set_option maxRecDepth 100000
def zeroNums : Value := .agg #[.int .u8 0, .int .u8 0, .int .u32 0, .int .u8 0, .int .u8 0, .int .u8 0, .int .u8 0, .int .u8 0, .int .u16 0, .int .u16 0, .int .u16 0, .int .u16 0, .int .u16 0]
theorem liftedB (os : Os) (started : os.Started) (H : Type) (enc : TypeId × Value → H) :
    ReturnsInHanded {} Tryz.checked os 4 .any (fun w args => (Rows.auditBackSpec.pre enc Tryz.prog Tryz.f4 [] false w args ∧ laidMetH Tryz.prog Rows.auditBackRow.laid w) ∧ sizedMet enc Tryz.prog Tryz.f4 (OpenSpec.ofChange Rows.auditBackSpec) false w args)
      (Rows.auditBackSpec.post enc Tryz.prog Tryz.f4 false true false false) := by
  refine returnsInHanded_of_change_and (C := Tryz.checked) (X := fun w _ => laidMetH Tryz.prog Rows.auditBackRow.laid w) (fun _ _ _ hh h => h.of_heap hh) ownK started (by kernel_rfl) Tryz.func4
    (ChangeSpec.witness_shaped (enc := enc) (C := Tryz.checked) (os := os) (X := fun w _ => laidMetH Tryz.prog Rows.auditBackRow.laid w) false (World.laidAll Tryz.prog os Rows.auditBackRow.laid) #[zeroNums, .slice none 0 0, .int .u8 0] 8 (World.laidAll_os _ _ _) (World.shaped_of_ZipB (by kernel_rfl) (by kernel_rfl)) (by kernel_rfl) (by kernel_rfl) (by kernel_rfl)
      (by rw [MakeChecks.laidMetH_plain _ _ _ (by kernel_rfl)]; exact laidMet_laidAll _ (by kernel_rfl) (by kernel_rfl))) ?_
  intro W base args ds gs before hval0 hW _ _ hL _
  have hval : ∀ (j : Nat) t v, Tryz.f4.params[j]? = some t → args[j]? = some v → Value.okWide Tryz.prog W .any base t v := hval0
  have hW' := hW
  obtain ⟨p, q, hA0, hV, rfl, hfz, hnd⟩ := hW
  have hA : DataW.TrodAll enc Tryz.prog W 0 (fun _ => true) true Tryz.f4.params.toList args.toList ds p := hA0
  rw [Tryz.params4] at hA hval
  obtain ⟨v0, v1, v2, d0, d1, d2, p0, p1, p2, rfl, rfl, rfl, h0, h1, h2⟩ := trodAll_three hA
  obtain ⟨rfl, rfl⟩ := trodVars_none hV
  clear hA0 hval0
  obtain ⟨x, hx, hv0⟩ := nums_of (hval 0 27 v0 rfl rfl) h0
  obtain ⟨n, f, hn, hf, hv1⟩ := smalls_of (hval 1 28 v1 rfl rfl) h1
  obtain ⟨z, rfl, rfl, rfl, hz⟩ := open_int Tryz.underlying5 (hval 2 5 v2 rfl rfl) h2
  have hz' := u8_rng hz
  refine (row_call (auditBack x hx f hf n hn z hz'.1 hz'.2) (vs_three hv0 hv1 (.lit (v := .int .u8 z)))).mono fun e W' ⟨he, hb⟩ => ?_
  subst he
  have hlt0 : ∀ x ∈ p0, x.block < W.heap.size := fun x hx => hW'.lt x (by simp [hx])
  have hlt1 : ∀ x ∈ p1, x.block < W.heap.size := fun x hx => hW'.lt x (by simp [hx])
  refine ⟨_, rfl, _, _, _, [], p0 ++ (p1 ++ []), [], hW', ?_, ?_, rfl, keptBut_below hb _, fun h => by cases h⟩
  · exact trodAll_mk1 (shut_bool Tryz.underlying4 true)
  · exact trodAll_mk3 (Below.trod laidOut (by kernel_rfl) (of_decide_eq_true (by kernel_rfl)) h0 hb hlt0) (Below.trod laidOut (by kernel_rfl) (of_decide_eq_true (by kernel_rfl)) h1 hb hlt1) (shut_int Tryz.underlying5 hz)
theorem auditBack_holds : Rows.AuditBackSaid :=
  OpenClaim.holds_of_wide 4 Tryz.f4 rfl rfl rfl rfl rfl rfl rfl ⟨rfl, rfl, rfl, rfl, rfl⟩ rfl rfl rfl rfl rfl (by kernel_rfl) Tryz.func4 (by kernel_rfl)
    (of_decide_eq_true (by kernel_rfl)) (by unfold Func.isWrapper; first | (rw [if_pos (by decide +kernel)]; kernel_rfl) | (rw [if_neg (by decide +kernel)]; exact ⟨rfl, rfl⟩))
    (fun os started H enc _ => liftedB os started H enc)
end Go.Proofs.T
end
