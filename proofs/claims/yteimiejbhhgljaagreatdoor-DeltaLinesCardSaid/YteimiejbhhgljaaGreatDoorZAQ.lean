import Derived.Test.YteimiejbhhgljaaGreatDoorZAP
import Derived.SizedLaws
import Derived.HandedShaped
import Derived.Stop.LaidErr
import Derived.LaidSub
import Derived.Shelf.Vars
import Derived.Test.YteimiejbhhgljaaGreatDoorRows
import Derived.ChangeMaps5
import Derived.Lay
import Derived.MakeChecks
set_option linter.unusedVariables false
set_option linter.unusedSimpArgs false
section
namespace Go.Proofs.T
open Go Go.AM Go.Proofs Go.Lib
set_option maxRecDepth 20000
variable {Γ : List (Nat × List AVal)}
attribute [local irreducible] putO del
attribute [local go_sem] rows
theorem itoa_fmt {x : Int} (h : 0 ≤ x) : itoa x = fmt x := by
  obtain ⟨n, rfl⟩ : ∃ n : Nat, x = n := ⟨x.toNat, by omega⟩
  rw [itoa_nat]; rfl
theorem u64_of {x : Int} (h : I64 x) (h0 : 0 ≤ x) : U64 x := ⟨h0, by have := h.2; omega⟩
theorem pl_ck {d : DE} (h : ∀ e ∈ elsD d, e.plain) {j : Nat} (hj : j < d.n0) : (cCk d j).plain := h _ (by rw [elsD_eq]; simp only [List.mem_append, elL_mem]; exact .inl ⟨j, hj, rfl⟩)
theorem pl_cu {d : DE} (h : ∀ e ∈ elsD d, e.plain) {j : Nat} (hj : j < d.n1) : (cCu d j).plain := h _ (by rw [elsD_eq]; simp only [List.mem_append, elL_mem]; exact .inr (.inl ⟨j, hj, rfl⟩))
theorem pl_wg {d : DE} (h : ∀ e ∈ elsD d, e.plain) {j : Nat} (hj : j < d.n2) : (cWg d j).plain := h _ (by rw [elsD_eq]; simp only [List.mem_append, elL_mem]; exact .inr (.inr (.inl ⟨j, hj, rfl⟩)))
theorem pl_gn {d : DE} (h : ∀ e ∈ elsD d, e.plain) {j : Nat} (hj : j < d.n3) : (cGn d j).plain := h _ (by rw [elsD_eq]; simp only [List.mem_append, elL_mem]; exact .inr (.inr (.inr (.inl ⟨j, hj, rfl⟩))))
theorem pl_tk {d : DE} (h : ∀ e ∈ elsD d, e.plain) {j : Nat} (hj : j < d.n4) : (cTk d j).plain := h _ (by rw [elsD_eq]; simp only [List.mem_append, elL_mem]; exact .inr (.inr (.inr (.inr (.inl ⟨j, hj, rfl⟩)))))
theorem pl_sp {d : DE} (h : ∀ e ∈ elsD d, e.plain) {j : Nat} (hj : j < d.n5) : (cSp d j).plain := h _ (by rw [elsD_eq]; simp only [List.mem_append, elL_mem]; exact .inr (.inr (.inr (.inr (.inr ⟨j, hj, rfl⟩)))))
theorem wrOk_of {E : List El} (h : ∀ x ∈ E.flatMap El.ints, 0 ≤ x) : ∀ e ∈ E, e.plain := fun e he x hx => h x (List.mem_flatMap.2 ⟨e, he, hx⟩)
theorem wrOk_neg {E : List El} {x : Int} (hx : x ∈ E.flatMap El.ints) (h : x < 0) : wrOk E = false := by
  obtain ⟨e, he, hxe⟩ := List.mem_flatMap.1 hx
  exact wrOk_no he (fun hp => by have := hp x hxe; omega)
set_option maxHeartbeats 8000000 in
theorem rWrite_c (d : DE) (hr : DRng d) (hd : d.size ≤ 20000) : AM.Pure Tryz.prog Γ 41 [.agg d.cells] (.tup [strs (wrL (elsD d)), .lit (.int .i64 (wrE (elsD d)))]) := by
  have hsz : d.n0 + d.n1 + d.n2 + d.n3 + d.n4 + d.n5 ≤ 20000 := hd
  have hnum := numbers_c (Γ := Γ) d hd
  obtain ⟨N, eN, hNl⟩ : ∃ N, N = (elsD d).flatMap El.ints ∧ N.length ≤ 80000 := ⟨_, rfl, by have := rwN_len (elsD d); rw [rwN, List.length_map, elsD_len] at this; omega⟩
  obtain ⟨NS, eNS, hNSl⟩ : ∃ NS, NS = rwN (elsD d) ∧ NS.length = N.length := ⟨_, rfl, by rw [eN, rwN, List.length_map]⟩
  have hNS : ∀ i, i < N.length → NS[i]? = some [.lit (.int .i64 (N.getD i 0))] := fun i hi => by
    rw [eNS, rwN, ← eN, List.getElem?_map, List.getElem?_eq_getElem hi, List.getD_eq_getElem?_getD, List.getElem?_eq_getElem hi]; rfl
  rw [← eNS] at hnum
  have hneg : ∀ x, x ∈ N → x < 0 → wrOk (elsD d) = false := fun x hx h => wrOk_neg (by rw [← eN]; exact hx) h
  have hpos : (∀ x ∈ N, 0 ≤ x) → ∀ e ∈ elsD d, e.plain := fun h => wrOk_of (by rw [← eN]; exact h)
  obtain ⟨RES, eRES⟩ : ∃ RES, RES = AVal.tup [strs (wrL (elsD d)), .lit (.int .i64 (wrE (elsD d)))] := ⟨_, rfl⟩
  have hRES : bd (fun _ => false) RES = true := by rw [eRES]; rfl
  rw [← eRES]
  clear eN eNS
  refine Pure_at Tryz.func41 rfl 170 rfl (Nat.le_of_ble_eq_true rfl) (by exact hRES) fun k => ?_
  have kp : Kp [0,1,2,3,4,5,6,7,8,9,10,11,12,13,14,15,21,28,35,36,37,38,45,74,92,120,140] (fun i => i - k) := kpI
  refine wl ?_ <;> and_intros <;> first | exact hdT | (apply zM; (repeat intro ht); apply zM; (repeat intro hg); apply zM)
  refine cl [.ret (rows 1 NS)] ?_ <;> and_intros <;> first | exact hdT | (apply zM; (repeat intro ht); apply zM; (repeat intro hg); apply zM)
  · exact hnum
  refine wl ?_ <;> and_intros <;> first | exact hdT | (apply zM; (repeat intro ht); apply zM; (repeat intro hg); apply zM)
  refine M_forO (X := Nat) rfl [0,1,2,3,4,5,6,7,8,9,10,11,12,13,14,15,21,28,35,36,37,38,45,74,92,120,140] (k + 1) (fun i => [(5, .lit (.int .i64 (i : Int)))]) (fun i => [(k, ⟨6, true, [d.cells]⟩)]) (fun i => i ≤ N.length ∧ ∀ x ∈ N.take i, 0 ≤ x) (fun i => N.length - i) 0 ?_ ⟨Nat.zero_le _, by simp⟩ ?_
  · refine rR ?_ <;> first | exact hdT | apply zN
    exact wkF
  rintro i ⟨hi, hall⟩
  by_cases hlt : i < N.length
  · obtain ⟨x, ex, hx⟩ : ∃ x, x = N.getD i 0 ∧ x ∈ N := ⟨_, rfl, by rw [List.getD_eq_getElem?_getD, List.getElem?_eq_getElem hlt]; exact List.getElem_mem hlt⟩
    have hq := hNS i hlt
    rw [← ex] at hq
    have hq' : NS.getD i [] = [.lit (.int .i64 x)] := by rw [List.getD_eq_getElem?_getD, hq]; rfl
    have htk : N.take (i + 1) = N.take i ++ [x] := by rw [ex, List.getD_eq_getElem?_getD, List.getElem?_eq_getElem hlt]; exact (List.take_append_getElem hlt).symm
    have uU := zA @hq (zA @hq' @hNSl)
    refine rR ?_ <;> first | exact hdT | apply zN
    refine wl ?_ <;> and_intros <;> first | exact hdT | (apply zM; (repeat intro ht); apply zM; (repeat intro hg); apply zM)
    · have hno := hneg x hx (by omega)
      rw [wrL, wrE, if_neg (by rw [hno]; simp), if_neg (by rw [hno]; simp)] at eRES
      refine wl ?_ <;> and_intros <;> first | exact hdT | (apply zM; (repeat intro ht); apply zM; (repeat intro hg); apply zM)
      rw [eRES]
      exact C_ret rfl ⟨_, rfl, VLe.tups (.cons (VLe.nil _ _) (.cons (VLe.refl _) .nil))⟩
    refine ⟨i + 1, ⟨by omega, ?_⟩, by omega, ?_⟩
    · intro y hy
      rw [htk, List.mem_append, List.mem_singleton] at hy
      rcases hy with hy | rfl
      · exact hall y hy
      · omega
    · rw [show ((i + 1 : Nat) : Int) = (i : Int) + 1 by omega]
      (have uU := zA @hq (zA @hq' @hNSl); exact wkU)
  have hN := hpos (fun x hx => hall x (by rw [List.take_of_length_le (by omega)]; exact hx))
  have hok := wrOk_yes hN
  rw [wrL, wrE, if_pos hok, if_pos hok] at eRES
  have uU := @hNSl
  refine rR ?_ <;> first | exact hdT | apply zN
  refine wl ?_ <;> and_intros <;> first | exact hdT | (apply zM; (repeat intro ht); apply zM; (repeat intro hg); apply zM)
  refine M_forO (X := Nat) rfl [0,1,2,3,4,5,6,7,8,9,10,11,12,13,14,15,21,28,35,36,37,38,45,74,92,120,140] (k + 3) (fun i => [(37, .lit (.int .i64 (i : Int))), (6, accV (k + 2) ((preE d i).map rowT))]) (fun i => accH (k + 2) 1 ((preE d i).map rowT) [(k + 1, ⟨1, true, [[.rd 2 d.n0 d.f0], [.rd 2 d.n1 d.f1], [.rd 2 d.n2 d.f2]]⟩), (k, ⟨6, true, [d.cells]⟩)]) (fun i => i ≤ 3) (fun i => 3 - i) 0 ?_ (Nat.zero_le _) ?_
  · rw [show (preE d 0).map rowT = [] from rfl]
    refine rR ?_ <;> first | exact hdT | apply zN
    (have uU := @hNSl; exact wkU)
  intro i hi
  rcases (show i = 0 ∨ i = 1 ∨ i = 2 ∨ i = 3 by omega) with rfl | rfl | rfl | rfl
  · refine wl ?_ <;> and_intros <;> first | exact hdT | (apply zM; (repeat intro ht); apply zM; (repeat intro hg); apply zM)
    refine M_forO (X := Nat) rfl [0,1,2,3,4,5,6,7,8,9,10,11,12,13,14,15,21,28,35,36,37,38,45,74,92,120,140] (k + 3) (fun j => [(9, .lit (.int .i64 (j : Int))), (6, accV (k + 2) ((preE d 0 ++ elL (cCk d) j).map rowT))]) (fun j => accH (k + 2) 1 ((preE d 0 ++ elL (cCk d) j).map rowT) [(k + 1, ⟨1, true, [[.rd 2 d.n0 d.f0], [.rd 2 d.n1 d.f1], [.rd 2 d.n2 d.f2]]⟩), (k, ⟨6, true, [d.cells]⟩)]) (fun j => j ≤ d.n0) (fun j => d.n0 - j) 0 ?_ (Nat.zero_le _) ?_
    · rw [elL_zero, List.append_nil]
      refine rR ?_ <;> first | exact hdT | apply zN
      (have uU := @hNSl; exact wkU)
    intro j hj
    obtain ⟨L, eL, hL⟩ : ∃ L, L = (preE d 0 ++ elL (cCk d) j).map rowT ∧ L.length ≤ 90000 := ⟨_, rfl, by rw [List.length_map, List.length_append, elL_len]; have := preE_len d 0; omega⟩
    rw [← eL]
    by_cases hlt : j < d.n0
    · have hsn := row_snoc (preE d 0) (cCk d) j L eL
      have hpl := pl_ck hN hlt
      clear eL
      obtain ⟨a, b, hab, hra, hrb⟩ : ∃ a b, d.ck j = (a, b) ∧ I64 a ∧ I64 b := ⟨_, _, rfl, hr.ck j⟩
      obtain ⟨ha0, hb0⟩ : 0 ≤ a ∧ 0 ≤ b := by simpa [cCk, hab, El.plain, El.ints] using hpl
      have hua := u64_of hra ha0
      have hub := u64_of hrb hb0
      have hwa : IntKind.u64.wrap a = a := wrap_u64' hua.1 hua.2
      have hwb : IntKind.u64.wrap b = b := wrap_u64' hub.1 hub.2
      have hrow : rowT (cCk d j) = [.lit (.string (ByteArray.mk (lnW wClock ([a, b].map fmt)).toArray))] := by
        rw [rowT, cCk, hab, lnT, lnW_jn, List.map_cons, List.map_cons, List.map_nil, ← itoa_fmt ha0, ← itoa_fmt hb0]; rfl
      rw [hrow] at hsn
      clear hrow
      obtain ⟨X, eX⟩ : ∃ X, X = lnW wClock ([a, b].map fmt) := ⟨_, rfl⟩
      rw [← eX] at hsn
      rcases L with _ | ⟨x0, L⟩
      ·
        have uU := zA @hab (zA @hwa @hwb)
        refine rR ?_ <;> first | exact hdT | apply zN
        refine wl ?_ <;> and_intros <;> first | exact hdT | (apply zM; (repeat intro ht); apply zM; (repeat intro hg); apply zM)
        refine dl [.gen (.lit (.string (ByteArray.mk X.toArray))) (k + 5) [(k + 4, ⟨1, true, [[.lit (.int .u64 a)], [.lit (.int .u64 b)]]⟩)] []] ?_ <;> and_intros <;> first | exact hdT | (apply zM; (repeat intro ht); apply zM; (repeat intro hg); apply zM)
        · rw [eX]; exact words_g (k + 5) (k + 4) wClock (by decide) [a, b] (by simp) (by simp [hua, hub])
        refine wl ?_ <;> and_intros <;> first | exact hdT | (apply zM; (repeat intro ht); apply zM; (repeat intro hg); apply zM)
        refine ⟨j + 1, by omega, by omega, ?_⟩
        rw [hsn, show ((j + 1 : Nat) : Int) = (j : Int) + 1 by omega]
        refine rR ?_ <;> first | exact hdT | apply zN
        exact Mv.app (k + 6) (k + 2) ⟨by omega, by omega⟩ ⟨by omega, by omega⟩ (wk_low (by omega) (by simp -dsimp -implicitDefEqProofs only [go_sem, hab, hwa, hwb, List.map_append, Flt.row, eq_self, ↓reduceIte]) (by simp -dsimp -implicitDefEqProofs only [go_sem, hab, hwa, hwb, List.map_append, Flt.row, eq_self, ↓reduceIte]) (by simp -dsimp -implicitDefEqProofs only [go_sem, hab, hwa, hwb, List.map_append, Flt.row, eq_self, ↓reduceIte]) (by simp -dsimp -implicitDefEqProofs only [go_sem, hab, hwa, hwb, List.map_append, Flt.row, eq_self, ↓reduceIte]))
      · have hLl : L.length ≤ 90000 := by simp at hL; omega
        have uU := zA @hab (zA @hwa @hwb)
        refine rR ?_ <;> first | exact hdT | apply zN
        refine wl ?_ <;> and_intros <;> first | exact hdT | (apply zM; (repeat intro ht); apply zM; (repeat intro hg); apply zM)
        refine dl [.gen (.lit (.string (ByteArray.mk X.toArray))) (k + 5) [(k + 4, ⟨1, true, [[.lit (.int .u64 a)], [.lit (.int .u64 b)]]⟩)] []] ?_ <;> and_intros <;> first | exact hdT | (apply zM; (repeat intro ht); apply zM; (repeat intro hg); apply zM)
        · rw [eX]; exact words_g (k + 5) (k + 4) wClock (by decide) [a, b] (by simp) (by simp [hua, hub])
        refine wl ?_ <;> and_intros <;> first | exact hdT | (apply zM; (repeat intro ht); apply zM; (repeat intro hg); apply zM)
        refine ⟨j + 1, by omega, by omega, ?_⟩
        rw [hsn, show ((j + 1 : Nat) : Int) = (j : Int) + 1 by omega]
        refine rR ?_ <;> first | exact hdT | apply zN
        exact Mv.app (k + 6) (k + 2) ⟨by omega, by omega⟩ ⟨by omega, by omega⟩ (wk_low (by omega) (by simp -dsimp -implicitDefEqProofs only [go_sem, hab, hwa, hwb, List.map_append, Flt.row, eq_self, ↓reduceIte]) (by simp -dsimp -implicitDefEqProofs only [go_sem, hab, hwa, hwb, List.map_append, Flt.row, eq_self, ↓reduceIte]) (by simp -dsimp -implicitDefEqProofs only [go_sem, hab, hwa, hwb, List.map_append, Flt.row, eq_self, ↓reduceIte]) (by simp -dsimp -implicitDefEqProofs only [go_sem, hab, hwa, hwb, List.map_append, Flt.row, eq_self, ↓reduceIte]))
    · have hje : j = d.n0 := by omega
      rw [hje] at eL
      have uU := Go.AM.uU
      refine rR ?_ <;> first | exact hdT | apply zN
      refine wl ?_ <;> and_intros <;> first | exact hdT | (apply zM; (repeat intro ht); apply zM; (repeat intro hg); apply zM)
      refine ⟨1, by omega, by omega, ?_⟩
      rw [show (preE d 1).map rowT = L by rw [eL]; rfl]
      refine rR ?_ <;> first | exact hdT | apply zN
      exact wkF
  · have uU := Go.AM.uU
    refine wl ?_ <;> and_intros <;> first | exact hdT | (apply zM; (repeat intro ht); apply zM; (repeat intro hg); apply zM)
    refine M_forO (X := Nat) rfl [0,1,2,3,4,5,6,7,8,9,10,11,12,13,14,15,21,28,35,36,37,38,45,74,92,120,140] (k + 3) (fun j => [(9, .lit (.int .i64 (j : Int))), (6, accV (k + 2) ((preE d 1 ++ elL (cCu d) j).map rowT))]) (fun j => accH (k + 2) 1 ((preE d 1 ++ elL (cCu d) j).map rowT) [(k + 1, ⟨1, true, [[.rd 2 d.n0 d.f0], [.rd 2 d.n1 d.f1], [.rd 2 d.n2 d.f2]]⟩), (k, ⟨6, true, [d.cells]⟩)]) (fun j => j ≤ d.n1) (fun j => d.n1 - j) 0 ?_ (Nat.zero_le _) ?_
    · rw [elL_zero, List.append_nil]
      refine rR ?_ <;> first | exact hdT | apply zN
      exact wkF
    intro j hj
    obtain ⟨L, eL, hL⟩ : ∃ L, L = (preE d 1 ++ elL (cCu d) j).map rowT ∧ L.length ≤ 90000 := ⟨_, rfl, by rw [List.length_map, List.length_append, elL_len]; have := preE_len d 1; omega⟩
    rw [← eL]
    by_cases hlt : j < d.n1
    · have hsn := row_snoc (preE d 1) (cCu d) j L eL
      have hpl := pl_cu hN hlt
      clear eL
      obtain ⟨a, b, hab, hra, hrb⟩ : ∃ a b, d.cu j = (a, b) ∧ I64 a ∧ I64 b := ⟨_, _, rfl, hr.cu j⟩
      obtain ⟨ha0, hb0⟩ : 0 ≤ a ∧ 0 ≤ b := by simpa [cCu, hab, El.plain, El.ints] using hpl
      have hua := u64_of hra ha0
      have hub := u64_of hrb hb0
      have hwa : IntKind.u64.wrap a = a := wrap_u64' hua.1 hua.2
      have hwb : IntKind.u64.wrap b = b := wrap_u64' hub.1 hub.2
      have hrow : rowT (cCu d j) = [.lit (.string (ByteArray.mk (lnW wCurrent ([a, b].map fmt)).toArray))] := by
        rw [rowT, cCu, hab, lnT, lnW_jn, List.map_cons, List.map_cons, List.map_nil, ← itoa_fmt ha0, ← itoa_fmt hb0]; rfl
      rw [hrow] at hsn
      clear hrow
      obtain ⟨X, eX⟩ : ∃ X, X = lnW wCurrent ([a, b].map fmt) := ⟨_, rfl⟩
      rw [← eX] at hsn
      rcases L with _ | ⟨x0, L⟩
      ·
        have uU := zA @hab (zA @hwa @hwb)
        refine rR ?_ <;> first | exact hdT | apply zN
        refine wl ?_ <;> and_intros <;> first | exact hdT | (apply zM; (repeat intro ht); apply zM; (repeat intro hg); apply zM)
        refine dl [.gen (.lit (.string (ByteArray.mk X.toArray))) (k + 5) [(k + 4, ⟨1, true, [[.lit (.int .u64 a)], [.lit (.int .u64 b)]]⟩)] []] ?_ <;> and_intros <;> first | exact hdT | (apply zM; (repeat intro ht); apply zM; (repeat intro hg); apply zM)
        · rw [eX]; exact words_g (k + 5) (k + 4) wCurrent (by decide) [a, b] (by simp) (by simp [hua, hub])
        refine wl ?_ <;> and_intros <;> first | exact hdT | (apply zM; (repeat intro ht); apply zM; (repeat intro hg); apply zM)
        refine ⟨j + 1, by omega, by omega, ?_⟩
        rw [hsn, show ((j + 1 : Nat) : Int) = (j : Int) + 1 by omega]
        refine rR ?_ <;> first | exact hdT | apply zN
        exact Mv.app (k + 6) (k + 2) ⟨by omega, by omega⟩ ⟨by omega, by omega⟩ (wk_low (by omega) (by simp -dsimp -implicitDefEqProofs only [go_sem, hab, hwa, hwb, List.map_append, Flt.row, eq_self, ↓reduceIte]) (by simp -dsimp -implicitDefEqProofs only [go_sem, hab, hwa, hwb, List.map_append, Flt.row, eq_self, ↓reduceIte]) (by simp -dsimp -implicitDefEqProofs only [go_sem, hab, hwa, hwb, List.map_append, Flt.row, eq_self, ↓reduceIte]) (by simp -dsimp -implicitDefEqProofs only [go_sem, hab, hwa, hwb, List.map_append, Flt.row, eq_self, ↓reduceIte]))
      · have hLl : L.length ≤ 90000 := by simp at hL; omega
        have uU := zA @hab (zA @hwa @hwb)
        refine rR ?_ <;> first | exact hdT | apply zN
        refine wl ?_ <;> and_intros <;> first | exact hdT | (apply zM; (repeat intro ht); apply zM; (repeat intro hg); apply zM)
        refine dl [.gen (.lit (.string (ByteArray.mk X.toArray))) (k + 5) [(k + 4, ⟨1, true, [[.lit (.int .u64 a)], [.lit (.int .u64 b)]]⟩)] []] ?_ <;> and_intros <;> first | exact hdT | (apply zM; (repeat intro ht); apply zM; (repeat intro hg); apply zM)
        · rw [eX]; exact words_g (k + 5) (k + 4) wCurrent (by decide) [a, b] (by simp) (by simp [hua, hub])
        refine wl ?_ <;> and_intros <;> first | exact hdT | (apply zM; (repeat intro ht); apply zM; (repeat intro hg); apply zM)
        refine ⟨j + 1, by omega, by omega, ?_⟩
        rw [hsn, show ((j + 1 : Nat) : Int) = (j : Int) + 1 by omega]
        refine rR ?_ <;> first | exact hdT | apply zN
        exact Mv.app (k + 6) (k + 2) ⟨by omega, by omega⟩ ⟨by omega, by omega⟩ (wk_low (by omega) (by simp -dsimp -implicitDefEqProofs only [go_sem, hab, hwa, hwb, List.map_append, Flt.row, eq_self, ↓reduceIte]) (by simp -dsimp -implicitDefEqProofs only [go_sem, hab, hwa, hwb, List.map_append, Flt.row, eq_self, ↓reduceIte]) (by simp -dsimp -implicitDefEqProofs only [go_sem, hab, hwa, hwb, List.map_append, Flt.row, eq_self, ↓reduceIte]) (by simp -dsimp -implicitDefEqProofs only [go_sem, hab, hwa, hwb, List.map_append, Flt.row, eq_self, ↓reduceIte]))
    · have hje : j = d.n1 := by omega
      rw [hje] at eL
      refine rR ?_ <;> first | exact hdT | apply zN
      refine wl ?_ <;> and_intros <;> first | exact hdT | (apply zM; (repeat intro ht); apply zM; (repeat intro hg); apply zM)
      refine ⟨2, by omega, by omega, ?_⟩
      rw [show (preE d 2).map rowT = L by rw [eL]; rfl]
      refine rR ?_ <;> first | exact hdT | apply zN
      exact wkF
  · have uU := Go.AM.uU
    refine wl ?_ <;> and_intros <;> first | exact hdT | (apply zM; (repeat intro ht); apply zM; (repeat intro hg); apply zM)
    refine M_forO (X := Nat) rfl [0,1,2,3,4,5,6,7,8,9,10,11,12,13,14,15,21,28,35,36,37,38,45,74,92,120,140] (k + 3) (fun j => [(9, .lit (.int .i64 (j : Int))), (6, accV (k + 2) ((preE d 2 ++ elL (cWg d) j).map rowT))]) (fun j => accH (k + 2) 1 ((preE d 2 ++ elL (cWg d) j).map rowT) [(k + 1, ⟨1, true, [[.rd 2 d.n0 d.f0], [.rd 2 d.n1 d.f1], [.rd 2 d.n2 d.f2]]⟩), (k, ⟨6, true, [d.cells]⟩)]) (fun j => j ≤ d.n2) (fun j => d.n2 - j) 0 ?_ (Nat.zero_le _) ?_
    · rw [elL_zero, List.append_nil]
      refine rR ?_ <;> first | exact hdT | apply zN
      exact wkF
    intro j hj
    obtain ⟨L, eL, hL⟩ : ∃ L, L = (preE d 2 ++ elL (cWg d) j).map rowT ∧ L.length ≤ 90000 := ⟨_, rfl, by rw [List.length_map, List.length_append, elL_len]; have := preE_len d 2; omega⟩
    rw [← eL]
    by_cases hlt : j < d.n2
    · have hsn := row_snoc (preE d 2) (cWg d) j L eL
      have hpl := pl_wg hN hlt
      clear eL
      obtain ⟨a, b, hab, hra, hrb⟩ : ∃ a b, d.wg j = (a, b) ∧ I64 a ∧ I64 b := ⟨_, _, rfl, hr.wg j⟩
      obtain ⟨ha0, hb0⟩ : 0 ≤ a ∧ 0 ≤ b := by simpa [cWg, hab, El.plain, El.ints] using hpl
      have hua := u64_of hra ha0
      have hub := u64_of hrb hb0
      have hwa : IntKind.u64.wrap a = a := wrap_u64' hua.1 hua.2
      have hwb : IntKind.u64.wrap b = b := wrap_u64' hub.1 hub.2
      have hrow : rowT (cWg d j) = [.lit (.string (ByteArray.mk (lnW wWeight ([a, b].map fmt)).toArray))] := by
        rw [rowT, cWg, hab, lnT, lnW_jn, List.map_cons, List.map_cons, List.map_nil, ← itoa_fmt ha0, ← itoa_fmt hb0]; rfl
      rw [hrow] at hsn
      clear hrow
      obtain ⟨X, eX⟩ : ∃ X, X = lnW wWeight ([a, b].map fmt) := ⟨_, rfl⟩
      rw [← eX] at hsn
      rcases L with _ | ⟨x0, L⟩
      ·
        have uU := zA @hab (zA @hwa @hwb)
        refine rR ?_ <;> first | exact hdT | apply zN
        refine wl ?_ <;> and_intros <;> first | exact hdT | (apply zM; (repeat intro ht); apply zM; (repeat intro hg); apply zM)
        refine dl [.gen (.lit (.string (ByteArray.mk X.toArray))) (k + 5) [(k + 4, ⟨1, true, [[.lit (.int .u64 a)], [.lit (.int .u64 b)]]⟩)] []] ?_ <;> and_intros <;> first | exact hdT | (apply zM; (repeat intro ht); apply zM; (repeat intro hg); apply zM)
        · rw [eX]; exact words_g (k + 5) (k + 4) wWeight (by decide) [a, b] (by simp) (by simp [hua, hub])
        refine wl ?_ <;> and_intros <;> first | exact hdT | (apply zM; (repeat intro ht); apply zM; (repeat intro hg); apply zM)
        refine ⟨j + 1, by omega, by omega, ?_⟩
        rw [hsn, show ((j + 1 : Nat) : Int) = (j : Int) + 1 by omega]
        refine rR ?_ <;> first | exact hdT | apply zN
        exact Mv.app (k + 6) (k + 2) ⟨by omega, by omega⟩ ⟨by omega, by omega⟩ (wk_low (by omega) (by simp -dsimp -implicitDefEqProofs only [go_sem, hab, hwa, hwb, List.map_append, Flt.row, eq_self, ↓reduceIte]) (by simp -dsimp -implicitDefEqProofs only [go_sem, hab, hwa, hwb, List.map_append, Flt.row, eq_self, ↓reduceIte]) (by simp -dsimp -implicitDefEqProofs only [go_sem, hab, hwa, hwb, List.map_append, Flt.row, eq_self, ↓reduceIte]) (by simp -dsimp -implicitDefEqProofs only [go_sem, hab, hwa, hwb, List.map_append, Flt.row, eq_self, ↓reduceIte]))
      · have hLl : L.length ≤ 90000 := by simp at hL; omega
        have uU := zA @hab (zA @hwa @hwb)
        refine rR ?_ <;> first | exact hdT | apply zN
        refine wl ?_ <;> and_intros <;> first | exact hdT | (apply zM; (repeat intro ht); apply zM; (repeat intro hg); apply zM)
        refine dl [.gen (.lit (.string (ByteArray.mk X.toArray))) (k + 5) [(k + 4, ⟨1, true, [[.lit (.int .u64 a)], [.lit (.int .u64 b)]]⟩)] []] ?_ <;> and_intros <;> first | exact hdT | (apply zM; (repeat intro ht); apply zM; (repeat intro hg); apply zM)
        · rw [eX]; exact words_g (k + 5) (k + 4) wWeight (by decide) [a, b] (by simp) (by simp [hua, hub])
        refine wl ?_ <;> and_intros <;> first | exact hdT | (apply zM; (repeat intro ht); apply zM; (repeat intro hg); apply zM)
        refine ⟨j + 1, by omega, by omega, ?_⟩
        rw [hsn, show ((j + 1 : Nat) : Int) = (j : Int) + 1 by omega]
        refine rR ?_ <;> first | exact hdT | apply zN
        exact Mv.app (k + 6) (k + 2) ⟨by omega, by omega⟩ ⟨by omega, by omega⟩ (wk_low (by omega) (by simp -dsimp -implicitDefEqProofs only [go_sem, hab, hwa, hwb, List.map_append, Flt.row, eq_self, ↓reduceIte]) (by simp -dsimp -implicitDefEqProofs only [go_sem, hab, hwa, hwb, List.map_append, Flt.row, eq_self, ↓reduceIte]) (by simp -dsimp -implicitDefEqProofs only [go_sem, hab, hwa, hwb, List.map_append, Flt.row, eq_self, ↓reduceIte]) (by simp -dsimp -implicitDefEqProofs only [go_sem, hab, hwa, hwb, List.map_append, Flt.row, eq_self, ↓reduceIte]))
    · have hje : j = d.n2 := by omega
      rw [hje] at eL
      refine rR ?_ <;> first | exact hdT | apply zN
      refine wl ?_ <;> and_intros <;> first | exact hdT | (apply zM; (repeat intro ht); apply zM; (repeat intro hg); apply zM)
      refine ⟨3, by omega, by omega, ?_⟩
      rw [show (preE d 3).map rowT = L by rw [eL]; rfl]
      refine rR ?_ <;> first | exact hdT | apply zN
      exact wkF
  · obtain ⟨LP, eLP⟩ : ∃ LP, LP = preE d 3 := ⟨_, rfl⟩
    have hLP : LP.length ≤ 20000 := by rw [eLP]; have := preE_len d 3; omega
    rw [← eLP]
    have uU := Go.AM.uU
    refine wl ?_ <;> and_intros <;> first | exact hdT | (apply zM; (repeat intro ht); apply zM; (repeat intro hg); apply zM)
    refine M_forO (X := Nat) rfl [0,1,2,3,4,5,6,7,8,9,10,11,12,13,14,15,21,28,35,36,37,38,45,74,92,120,140] (k + 3) (fun j => [(10, .lit (.int .i64 (j : Int))), (6, accV (k + 2) ((LP ++ elL (cGn d) j).map rowT))]) (fun j => accH (k + 2) 1 ((LP ++ elL (cGn d) j).map rowT) [(k + 1, ⟨1, true, [[.rd 2 d.n0 d.f0], [.rd 2 d.n1 d.f1], [.rd 2 d.n2 d.f2]]⟩), (k, ⟨6, true, [d.cells]⟩)]) (fun j => j ≤ d.n3) (fun j => d.n3 - j) 0 ?_ (Nat.zero_le _) ?_
    · rw [elL_zero, List.append_nil]
      refine rR ?_ <;> first | exact hdT | apply zN
      exact wkF
    intro j hj
    obtain ⟨L, eL, hL⟩ : ∃ L, L = (LP ++ elL (cGn d) j).map rowT ∧ L.length ≤ 90000 := ⟨_, rfl, by rw [List.length_map, List.length_append, elL_len]; have := hLP; omega⟩
    rw [← eL]
    by_cases hlt : j < d.n3
    · have hsn := row_snoc (LP) (cGn d) j L eL
      have hpl := pl_gn hN hlt
      clear eL
      obtain ⟨a, hab, hra⟩ : ∃ a, d.gn j = a ∧ I64 a := ⟨_, rfl, hr.gn j⟩
      have ha0 : 0 ≤ a := by simpa [cGn, hab, El.plain, El.ints] using hpl
      have hua := u64_of hra ha0
      have hwa : IntKind.u64.wrap a = a := wrap_u64' hua.1 hua.2
      have hrow : rowT (cGn d j) = [.lit (.string (ByteArray.mk (lnW wGone ([a].map fmt)).toArray))] := by
        rw [rowT, cGn, hab, lnT, lnW_jn, List.map_cons, List.map_nil, ← itoa_fmt ha0]; rfl
      rw [hrow] at hsn
      clear hrow
      obtain ⟨X, eX⟩ : ∃ X, X = lnW wGone ([a].map fmt) := ⟨_, rfl⟩
      rw [← eX] at hsn
      rcases L with _ | ⟨x0, L⟩
      ·
        have uU := zA @hab @hwa
        refine rR ?_ <;> first | exact hdT | apply zN
        refine wl ?_ <;> and_intros <;> first | exact hdT | (apply zM; (repeat intro ht); apply zM; (repeat intro hg); apply zM)
        refine cl [.gen (.lit (.string (ByteArray.mk X.toArray))) (k + 4) [(k + 3, ⟨1, true, [[.lit (.int .u64 a)]]⟩)] []] ?_ <;> and_intros <;> first | exact hdT | (apply zM; (repeat intro ht); apply zM; (repeat intro hg); apply zM)
        · rw [eX]; exact words_g (k + 4) (k + 3) wGone (by decide) [a] (by simp) (by simp [hua])
        refine wl ?_ <;> and_intros <;> first | exact hdT | (apply zM; (repeat intro ht); apply zM; (repeat intro hg); apply zM)
        refine ⟨j + 1, by omega, by omega, ?_⟩
        rw [hsn, show ((j + 1 : Nat) : Int) = (j : Int) + 1 by omega]
        refine rR ?_ <;> first | exact hdT | apply zN
        exact Mv.app (k + 5) (k + 2) ⟨by omega, by omega⟩ ⟨by omega, by omega⟩ (wk_low (by omega) (by simp -dsimp -implicitDefEqProofs only [go_sem, hab, hwa, List.map_append, Flt.row, eq_self, ↓reduceIte]) (by simp -dsimp -implicitDefEqProofs only [go_sem, hab, hwa, List.map_append, Flt.row, eq_self, ↓reduceIte]) (by simp -dsimp -implicitDefEqProofs only [go_sem, hab, hwa, List.map_append, Flt.row, eq_self, ↓reduceIte]) (by simp -dsimp -implicitDefEqProofs only [go_sem, hab, hwa, List.map_append, Flt.row, eq_self, ↓reduceIte]))
      · have hLl : L.length ≤ 90000 := by simp at hL; omega
        have uU := zA @hab @hwa
        refine rR ?_ <;> first | exact hdT | apply zN
        refine wl ?_ <;> and_intros <;> first | exact hdT | (apply zM; (repeat intro ht); apply zM; (repeat intro hg); apply zM)
        refine cl [.gen (.lit (.string (ByteArray.mk X.toArray))) (k + 4) [(k + 3, ⟨1, true, [[.lit (.int .u64 a)]]⟩)] []] ?_ <;> and_intros <;> first | exact hdT | (apply zM; (repeat intro ht); apply zM; (repeat intro hg); apply zM)
        · rw [eX]; exact words_g (k + 4) (k + 3) wGone (by decide) [a] (by simp) (by simp [hua])
        refine wl ?_ <;> and_intros <;> first | exact hdT | (apply zM; (repeat intro ht); apply zM; (repeat intro hg); apply zM)
        refine ⟨j + 1, by omega, by omega, ?_⟩
        rw [hsn, show ((j + 1 : Nat) : Int) = (j : Int) + 1 by omega]
        refine rR ?_ <;> first | exact hdT | apply zN
        exact Mv.app (k + 5) (k + 2) ⟨by omega, by omega⟩ ⟨by omega, by omega⟩ (wk_low (by omega) (by simp -dsimp -implicitDefEqProofs only [go_sem, hab, hwa, List.map_append, Flt.row, eq_self, ↓reduceIte]) (by simp -dsimp -implicitDefEqProofs only [go_sem, hab, hwa, List.map_append, Flt.row, eq_self, ↓reduceIte]) (by simp -dsimp -implicitDefEqProofs only [go_sem, hab, hwa, List.map_append, Flt.row, eq_self, ↓reduceIte]) (by simp -dsimp -implicitDefEqProofs only [go_sem, hab, hwa, List.map_append, Flt.row, eq_self, ↓reduceIte]))
    · have hje : j = d.n3 := by omega
      rw [hje] at eL
      refine rR ?_ <;> first | exact hdT | apply zN
      obtain ⟨LQ, eLQ⟩ : ∃ LQ, LQ = LP ++ elL (cGn d) d.n3 := ⟨_, rfl⟩
      have hLQ : LQ.length ≤ 40000 := by rw [eLQ, List.length_append, elL_len]; omega
      rw [← eLQ] at eL
      rw [eL]
      clear eL hL L
      refine wl ?_ <;> and_intros <;> first | exact hdT | (apply zM; (repeat intro ht); apply zM; (repeat intro hg); apply zM)
      refine M_forO (X := Nat) rfl [0,1,2,3,4,5,6,7,8,9,10,11,12,13,14,15,21,28,35,36,37,38,45,74,92,120,140] (k + 3) (fun j => [(11, .lit (.int .i64 (j : Int))), (6, accV (k + 2) ((LQ ++ elL (cTk d) j).map rowT))]) (fun j => accH (k + 2) 1 ((LQ ++ elL (cTk d) j).map rowT) [(k + 1, ⟨1, true, [[.rd 2 d.n0 d.f0], [.rd 2 d.n1 d.f1], [.rd 2 d.n2 d.f2]]⟩), (k, ⟨6, true, [d.cells]⟩)]) (fun j => j ≤ d.n4) (fun j => d.n4 - j) 0 ?_ (Nat.zero_le _) ?_
      · rw [elL_zero, List.append_nil]
        refine rR ?_ <;> first | exact hdT | apply zN
        exact wkF
      intro j hj
      obtain ⟨L, eL, hL⟩ : ∃ L, L = (LQ ++ elL (cTk d) j).map rowT ∧ L.length ≤ 90000 := ⟨_, rfl, by rw [List.length_map, List.length_append, elL_len]; have := hLQ; omega⟩
      rw [← eL]
      by_cases hlt : j < d.n4
      · have hsn := row_snoc (LQ) (cTk d) j L eL
        have hpl := pl_tk hN hlt
        clear eL
        obtain ⟨x, hx, hrx⟩ : ∃ x, d.tk j = x ∧ (El.tk x).rng := ⟨_, rfl, hr.tk j⟩
        obtain ⟨i1, i2, i3, i4, m, rd, v, r⟩ := x
        obtain ⟨g1, g2, g3, g4, g5, g6, g7⟩ := hrx
        simp only at g1 g2 g3 g4 g5 g6 g7
        have g8 : U64 r := ⟨g7.1, by have := g7.2; omega⟩
        obtain ⟨p1, p2, p3, p4⟩ : 0 ≤ i1 ∧ 0 ≤ i2 ∧ 0 ≤ i3 ∧ 0 ≤ i4 := by simpa [cTk, hx, El.plain, El.ints] using hpl
        have hui1 := u64_of g1 p1
        have hui2 := u64_of g2 p2
        have hui3 := u64_of g3 p3
        have hui4 := u64_of g4 p4
        have hur := g8
        have hwi1 : IntKind.u64.wrap i1 = i1 := wrap_u64' hui1.1 hui1.2
        have hwi2 : IntKind.u64.wrap i2 = i2 := wrap_u64' hui2.1 hui2.2
        have hwi3 : IntKind.u64.wrap i3 = i3 := wrap_u64' hui3.1 hui3.2
        have hwi4 : IntKind.u64.wrap i4 = i4 := wrap_u64' hui4.1 hui4.2
        have hwr : IntKind.u64.wrap r = r := wrap_u64' hur.1 hur.2
        obtain ⟨S, eS, hS⟩ : ∃ S : List UInt8, S = 32 :: (if rd = true then wReady else wAsleep) ∧ S.length ≤ 10 := ⟨_, rfl, by cases rd <;> decide⟩
        obtain ⟨M, eM, hM⟩ : ∃ M, M = mT m ∧ M.length ≤ 400 := ⟨_, rfl, mT_len g5⟩
        obtain ⟨A, eA, hA⟩ : ∃ A, A = lnW wTask ([i1, i2, i3, i4].map fmt) ∧ A.length ≤ 1000 := ⟨_, rfl, by
          have := fmt_len hui1
          have := fmt_len hui2
          have := fmt_len hui3
          have := fmt_len hui4
          have h1 : wTask.length = 4 := rfl
          simp only [lnW, List.map_cons, List.map_nil, List.foldl, List.length_append, List.length_cons]; omega⟩
        obtain ⟨B, eB, hB⟩ : ∃ B, B = A ++ [32] ++ M ++ S ∧ B.length ≤ 5000 := ⟨_, rfl, by simp; omega⟩
        obtain ⟨X, eX⟩ : ∃ X, X = lnW B ([v, r].map fmt) := ⟨_, rfl⟩
        have hrow : rowT (cTk d j) = [.lit (.string (ByteArray.mk X.toArray))] := by
          have h2 : lnT (.tk ⟨i1, i2, i3, i4, m, rd, v, r⟩) = X := by
            have h3 : lnT (.tk ⟨i1, i2, i3, i4, m, rd, v, r⟩) = lnW wTask [itoa i1, itoa i2, itoa i3, itoa i4, mT m, if rd = true then wReady else wAsleep, fmt v, fmt r] := by rw [lnW_jn]; rfl
            rw [h3, itoa_fmt p1, itoa_fmt p2, itoa_fmt p3, itoa_fmt p4, eX, eB, eA, eM, eS]
            simp [lnW]
          rw [rowT, cTk, hx, h2]
        rw [hrow] at hsn
        clear hrow
        have hmt := text20_c (Γ := Γ) m g5
        rw [← eM] at hmt
        rcases L with _ | ⟨x0, L⟩
        ·
          cases rd
          · have eS' : S = [32, 97, 115, 108, 101, 101, 112] := by rw [eS]; rfl
            have uU := zA @hx (zA @hwi1 (zA @hwi2 (zA @hwi3 (zA @hwi4 @hwr))))
            refine rR ?_ <;> first | exact hdT | apply zN
            refine wl ?_ <;> and_intros <;> first | exact hdT | (apply zM; (repeat intro ht); apply zM; (repeat intro hg); apply zM)
            refine dl [.gen (.lit (.string (ByteArray.mk A.toArray))) (k + 5) [(k + 4, ⟨1, true, [[.lit (.int .u64 i1)], [.lit (.int .u64 i2)], [.lit (.int .u64 i3)], [.lit (.int .u64 i4)]]⟩)] [], .ret (.lit (.string (ByteArray.mk M.toArray)))] ?_ <;> and_intros <;> first | exact hdT | (apply zM; (repeat intro ht); apply zM; (repeat intro hg); apply zM)
            · rw [eA]; exact words_g (k + 5) (k + 4) wTask (by decide) [i1, i2, i3, i4] (by simp) (by simp [hui1, hui2, hui3, hui4])
            refine wl ?_ <;> and_intros <;> first | exact hdT | (apply zM; (repeat intro ht); apply zM; (repeat intro hg); apply zM)
            rw [← eS']
            refine cl [.gen (.lit (.string (ByteArray.mk X.toArray))) (k + 6) [(k + 5, ⟨1, true, [[.lit (.int .u64 v)], [.lit (.int .u64 r)]]⟩)] []] ?_ <;> and_intros <;> first | exact hdT | (apply zM; (repeat intro ht); apply zM; (repeat intro hg); apply zM)
            · rw [← eB, eX]; exact words_g (k + 6) (k + 5) B (by omega) [v, r] (by simp) (by simp [g6, g8])
            refine wl ?_ <;> and_intros <;> first | exact hdT | (apply zM; (repeat intro ht); apply zM; (repeat intro hg); apply zM)
            refine ⟨j + 1, by omega, by omega, ?_⟩
            rw [hsn, show ((j + 1 : Nat) : Int) = (j : Int) + 1 by omega]
            refine rR ?_ <;> first | exact hdT | apply zN
            exact Mv.app (k + 7) (k + 2) ⟨by omega, by omega⟩ ⟨by omega, by omega⟩ (wk_low (by omega) (by simp -dsimp -implicitDefEqProofs only [go_sem, hx, hwi1, hwi2, hwi3, hwi4, hwr, List.map_append, Flt.row, eq_self, ↓reduceIte]) (by simp -dsimp -implicitDefEqProofs only [go_sem, hx, hwi1, hwi2, hwi3, hwi4, hwr, List.map_append, Flt.row, eq_self, ↓reduceIte]) (by simp -dsimp -implicitDefEqProofs only [go_sem, hx, hwi1, hwi2, hwi3, hwi4, hwr, List.map_append, Flt.row, eq_self, ↓reduceIte]) (by simp -dsimp -implicitDefEqProofs only [go_sem, hx, hwi1, hwi2, hwi3, hwi4, hwr, List.map_append, Flt.row, eq_self, ↓reduceIte]))
          · have eS' : S = [32, 114, 101, 97, 100, 121] := by rw [eS]; rfl
            have uU := zA @hx (zA @hwi1 (zA @hwi2 (zA @hwi3 (zA @hwi4 @hwr))))
            refine rR ?_ <;> first | exact hdT | apply zN
            refine wl ?_ <;> and_intros <;> first | exact hdT | (apply zM; (repeat intro ht); apply zM; (repeat intro hg); apply zM)
            refine dl [.gen (.lit (.string (ByteArray.mk A.toArray))) (k + 5) [(k + 4, ⟨1, true, [[.lit (.int .u64 i1)], [.lit (.int .u64 i2)], [.lit (.int .u64 i3)], [.lit (.int .u64 i4)]]⟩)] [], .ret (.lit (.string (ByteArray.mk M.toArray)))] ?_ <;> and_intros <;> first | exact hdT | (apply zM; (repeat intro ht); apply zM; (repeat intro hg); apply zM)
            · rw [eA]; exact words_g (k + 5) (k + 4) wTask (by decide) [i1, i2, i3, i4] (by simp) (by simp [hui1, hui2, hui3, hui4])
            refine wl ?_ <;> and_intros <;> first | exact hdT | (apply zM; (repeat intro ht); apply zM; (repeat intro hg); apply zM)
            rw [← eS']
            refine cl [.gen (.lit (.string (ByteArray.mk X.toArray))) (k + 6) [(k + 5, ⟨1, true, [[.lit (.int .u64 v)], [.lit (.int .u64 r)]]⟩)] []] ?_ <;> and_intros <;> first | exact hdT | (apply zM; (repeat intro ht); apply zM; (repeat intro hg); apply zM)
            · rw [← eB, eX]; exact words_g (k + 6) (k + 5) B (by omega) [v, r] (by simp) (by simp [g6, g8])
            refine wl ?_ <;> and_intros <;> first | exact hdT | (apply zM; (repeat intro ht); apply zM; (repeat intro hg); apply zM)
            refine ⟨j + 1, by omega, by omega, ?_⟩
            rw [hsn, show ((j + 1 : Nat) : Int) = (j : Int) + 1 by omega]
            refine rR ?_ <;> first | exact hdT | apply zN
            exact Mv.app (k + 7) (k + 2) ⟨by omega, by omega⟩ ⟨by omega, by omega⟩ (wk_low (by omega) (by simp -dsimp -implicitDefEqProofs only [go_sem, hx, hwi1, hwi2, hwi3, hwi4, hwr, List.map_append, Flt.row, eq_self, ↓reduceIte]) (by simp -dsimp -implicitDefEqProofs only [go_sem, hx, hwi1, hwi2, hwi3, hwi4, hwr, List.map_append, Flt.row, eq_self, ↓reduceIte]) (by simp -dsimp -implicitDefEqProofs only [go_sem, hx, hwi1, hwi2, hwi3, hwi4, hwr, List.map_append, Flt.row, eq_self, ↓reduceIte]) (by simp -dsimp -implicitDefEqProofs only [go_sem, hx, hwi1, hwi2, hwi3, hwi4, hwr, List.map_append, Flt.row, eq_self, ↓reduceIte]))
        · have hLl : L.length ≤ 90000 := by simp at hL; omega
          cases rd
          · have eS' : S = [32, 97, 115, 108, 101, 101, 112] := by rw [eS]; rfl
            have uU := zA @hx (zA @hwi1 (zA @hwi2 (zA @hwi3 (zA @hwi4 @hwr))))
            refine rR ?_ <;> first | exact hdT | apply zN
            refine wl ?_ <;> and_intros <;> first | exact hdT | (apply zM; (repeat intro ht); apply zM; (repeat intro hg); apply zM)
            refine dl [.gen (.lit (.string (ByteArray.mk A.toArray))) (k + 5) [(k + 4, ⟨1, true, [[.lit (.int .u64 i1)], [.lit (.int .u64 i2)], [.lit (.int .u64 i3)], [.lit (.int .u64 i4)]]⟩)] [], .ret (.lit (.string (ByteArray.mk M.toArray)))] ?_ <;> and_intros <;> first | exact hdT | (apply zM; (repeat intro ht); apply zM; (repeat intro hg); apply zM)
            · rw [eA]; exact words_g (k + 5) (k + 4) wTask (by decide) [i1, i2, i3, i4] (by simp) (by simp [hui1, hui2, hui3, hui4])
            refine wl ?_ <;> and_intros <;> first | exact hdT | (apply zM; (repeat intro ht); apply zM; (repeat intro hg); apply zM)
            rw [← eS']
            refine cl [.gen (.lit (.string (ByteArray.mk X.toArray))) (k + 6) [(k + 5, ⟨1, true, [[.lit (.int .u64 v)], [.lit (.int .u64 r)]]⟩)] []] ?_ <;> and_intros <;> first | exact hdT | (apply zM; (repeat intro ht); apply zM; (repeat intro hg); apply zM)
            · rw [← eB, eX]; exact words_g (k + 6) (k + 5) B (by omega) [v, r] (by simp) (by simp [g6, g8])
            refine wl ?_ <;> and_intros <;> first | exact hdT | (apply zM; (repeat intro ht); apply zM; (repeat intro hg); apply zM)
            refine ⟨j + 1, by omega, by omega, ?_⟩
            rw [hsn, show ((j + 1 : Nat) : Int) = (j : Int) + 1 by omega]
            refine rR ?_ <;> first | exact hdT | apply zN
            exact Mv.app (k + 7) (k + 2) ⟨by omega, by omega⟩ ⟨by omega, by omega⟩ (wk_low (by omega) (by simp -dsimp -implicitDefEqProofs only [go_sem, hx, hwi1, hwi2, hwi3, hwi4, hwr, List.map_append, Flt.row, eq_self, ↓reduceIte]) (by simp -dsimp -implicitDefEqProofs only [go_sem, hx, hwi1, hwi2, hwi3, hwi4, hwr, List.map_append, Flt.row, eq_self, ↓reduceIte]) (by simp -dsimp -implicitDefEqProofs only [go_sem, hx, hwi1, hwi2, hwi3, hwi4, hwr, List.map_append, Flt.row, eq_self, ↓reduceIte]) (by simp -dsimp -implicitDefEqProofs only [go_sem, hx, hwi1, hwi2, hwi3, hwi4, hwr, List.map_append, Flt.row, eq_self, ↓reduceIte]))
          · have eS' : S = [32, 114, 101, 97, 100, 121] := by rw [eS]; rfl
            have uU := zA @hx (zA @hwi1 (zA @hwi2 (zA @hwi3 (zA @hwi4 @hwr))))
            refine rR ?_ <;> first | exact hdT | apply zN
            refine wl ?_ <;> and_intros <;> first | exact hdT | (apply zM; (repeat intro ht); apply zM; (repeat intro hg); apply zM)
            refine dl [.gen (.lit (.string (ByteArray.mk A.toArray))) (k + 5) [(k + 4, ⟨1, true, [[.lit (.int .u64 i1)], [.lit (.int .u64 i2)], [.lit (.int .u64 i3)], [.lit (.int .u64 i4)]]⟩)] [], .ret (.lit (.string (ByteArray.mk M.toArray)))] ?_ <;> and_intros <;> first | exact hdT | (apply zM; (repeat intro ht); apply zM; (repeat intro hg); apply zM)
            · rw [eA]; exact words_g (k + 5) (k + 4) wTask (by decide) [i1, i2, i3, i4] (by simp) (by simp [hui1, hui2, hui3, hui4])
            refine wl ?_ <;> and_intros <;> first | exact hdT | (apply zM; (repeat intro ht); apply zM; (repeat intro hg); apply zM)
            rw [← eS']
            refine cl [.gen (.lit (.string (ByteArray.mk X.toArray))) (k + 6) [(k + 5, ⟨1, true, [[.lit (.int .u64 v)], [.lit (.int .u64 r)]]⟩)] []] ?_ <;> and_intros <;> first | exact hdT | (apply zM; (repeat intro ht); apply zM; (repeat intro hg); apply zM)
            · rw [← eB, eX]; exact words_g (k + 6) (k + 5) B (by omega) [v, r] (by simp) (by simp [g6, g8])
            refine wl ?_ <;> and_intros <;> first | exact hdT | (apply zM; (repeat intro ht); apply zM; (repeat intro hg); apply zM)
            refine ⟨j + 1, by omega, by omega, ?_⟩
            rw [hsn, show ((j + 1 : Nat) : Int) = (j : Int) + 1 by omega]
            refine rR ?_ <;> first | exact hdT | apply zN
            exact Mv.app (k + 7) (k + 2) ⟨by omega, by omega⟩ ⟨by omega, by omega⟩ (wk_low (by omega) (by simp -dsimp -implicitDefEqProofs only [go_sem, hx, hwi1, hwi2, hwi3, hwi4, hwr, List.map_append, Flt.row, eq_self, ↓reduceIte]) (by simp -dsimp -implicitDefEqProofs only [go_sem, hx, hwi1, hwi2, hwi3, hwi4, hwr, List.map_append, Flt.row, eq_self, ↓reduceIte]) (by simp -dsimp -implicitDefEqProofs only [go_sem, hx, hwi1, hwi2, hwi3, hwi4, hwr, List.map_append, Flt.row, eq_self, ↓reduceIte]) (by simp -dsimp -implicitDefEqProofs only [go_sem, hx, hwi1, hwi2, hwi3, hwi4, hwr, List.map_append, Flt.row, eq_self, ↓reduceIte]))
      · have hje : j = d.n4 := by omega
        rw [hje] at eL
        refine rR ?_ <;> first | exact hdT | apply zN
        obtain ⟨LR, eLR⟩ : ∃ LR, LR = LQ ++ elL (cTk d) d.n4 := ⟨_, rfl⟩
        have hLR : LR.length ≤ 60000 := by rw [eLR, List.length_append, elL_len]; omega
        rw [← eLR] at eL
        rw [eL]
        clear eL hL L
        refine wl ?_ <;> and_intros <;> first | exact hdT | (apply zM; (repeat intro ht); apply zM; (repeat intro hg); apply zM)
        refine M_forO (X := Nat) rfl [0,1,2,3,4,5,6,7,8,9,10,11,12,13,14,15,21,28,35,36,37,38,45,74,92,120,140] (k + 3) (fun j => [(14, .lit (.int .i64 (j : Int))), (6, accV (k + 2) ((LR ++ elL (cSp d) j).map rowT))]) (fun j => accH (k + 2) 1 ((LR ++ elL (cSp d) j).map rowT) [(k + 1, ⟨1, true, [[.rd 2 d.n0 d.f0], [.rd 2 d.n1 d.f1], [.rd 2 d.n2 d.f2]]⟩), (k, ⟨6, true, [d.cells]⟩)]) (fun j => j ≤ d.n5) (fun j => d.n5 - j) 0 ?_ (Nat.zero_le _) ?_
        · rw [elL_zero, List.append_nil]
          refine rR ?_ <;> first | exact hdT | apply zN
          exact wkF
        intro j hj
        obtain ⟨L, eL, hL⟩ : ∃ L, L = (LR ++ elL (cSp d) j).map rowT ∧ L.length ≤ 90000 := ⟨_, rfl, by rw [List.length_map, List.length_append, elL_len]; have := hLR; omega⟩
        rw [← eL]
        by_cases hlt : j < d.n5
        · have hsn := row_snoc (LR) (cSp d) j L eL
          have hpl := pl_sp hN hlt
          clear eL
          obtain ⟨g, c, p, hx, g1, g2, g3, g4, g5⟩ : ∃ g c p, d.sp j = (g, c, p) ∧ I64 g ∧ I64 c ∧ U64 p.v ∧ U32 p.r ∧ U64 p.floor := ⟨_, _, _, rfl, hr.sp j⟩
          obtain ⟨v, r, f⟩ := p
          simp only at g3 g4 g5
          obtain ⟨p1, p2⟩ : 0 ≤ g ∧ 0 ≤ c := by simpa [cSp, hx, El.plain, El.ints] using hpl
          have hug := u64_of g1 p1
          have huc := u64_of g2 p2
          have hur : U64 r := ⟨g4.1, by have := g4.2; omega⟩
          have hwg : IntKind.u64.wrap g = g := wrap_u64' hug.1 hug.2
          have hwc : IntKind.u64.wrap c = c := wrap_u64' huc.1 huc.2
          have hwr : IntKind.u64.wrap r = r := wrap_u64' hur.1 hur.2
          obtain ⟨X, eX⟩ : ∃ X, X = lnW wSpot ([g, c, v, r, f].map fmt) := ⟨_, rfl⟩
          have hrow : rowT (cSp d j) = [.lit (.string (ByteArray.mk X.toArray))] := by
            have h2 : lnT (.sp g c ⟨v, r, f⟩) = X := by
              have h3 : lnT (.sp g c ⟨v, r, f⟩) = lnW wSpot [itoa g, itoa c, fmt v, fmt r, fmt f] := by rw [lnW_jn]; rfl
              rw [h3, itoa_fmt p1, itoa_fmt p2, eX]; rfl
            rw [rowT, cSp, hx, h2]
          rw [hrow] at hsn
          clear hrow
          rcases L with _ | ⟨x0, L⟩
          ·
            have uU := zA @hx (zA @hwg (zA @hwc @hwr))
            refine rR ?_ <;> first | exact hdT | apply zN
            refine wl ?_ <;> and_intros <;> first | exact hdT | (apply zM; (repeat intro ht); apply zM; (repeat intro hg); apply zM)
            refine cl [.gen (.lit (.string (ByteArray.mk X.toArray))) (k + 5) [(k + 4, ⟨1, true, [[.lit (.int .u64 g)], [.lit (.int .u64 c)], [.lit (.int .u64 v)], [.lit (.int .u64 r)], [.lit (.int .u64 f)]]⟩)] []] ?_ <;> and_intros <;> first | exact hdT | (apply zM; (repeat intro ht); apply zM; (repeat intro hg); apply zM)
            · rw [eX]; exact words_g (k + 5) (k + 4) wSpot (by decide) [g, c, v, r, f] (by simp) (by simp [hug, huc, g3, hur, g5])
            refine wl ?_ <;> and_intros <;> first | exact hdT | (apply zM; (repeat intro ht); apply zM; (repeat intro hg); apply zM)
            refine ⟨j + 1, by omega, by omega, ?_⟩
            rw [hsn, show ((j + 1 : Nat) : Int) = (j : Int) + 1 by omega]
            refine rR ?_ <;> first | exact hdT | apply zN
            exact Mv.app (k + 6) (k + 2) ⟨by omega, by omega⟩ ⟨by omega, by omega⟩ (wk_low (by omega) (by simp -dsimp -implicitDefEqProofs only [go_sem, hx, hwg, hwc, hwr, List.map_append, Flt.row, eq_self, ↓reduceIte]) (by simp -dsimp -implicitDefEqProofs only [go_sem, hx, hwg, hwc, hwr, List.map_append, Flt.row, eq_self, ↓reduceIte]) (by simp -dsimp -implicitDefEqProofs only [go_sem, hx, hwg, hwc, hwr, List.map_append, Flt.row, eq_self, ↓reduceIte]) (by simp -dsimp -implicitDefEqProofs only [go_sem, hx, hwg, hwc, hwr, List.map_append, Flt.row, eq_self, ↓reduceIte]))
          · have hLl : L.length ≤ 90000 := by simp at hL; omega
            have uU := zA @hx (zA @hwg (zA @hwc @hwr))
            refine rR ?_ <;> first | exact hdT | apply zN
            refine wl ?_ <;> and_intros <;> first | exact hdT | (apply zM; (repeat intro ht); apply zM; (repeat intro hg); apply zM)
            refine cl [.gen (.lit (.string (ByteArray.mk X.toArray))) (k + 5) [(k + 4, ⟨1, true, [[.lit (.int .u64 g)], [.lit (.int .u64 c)], [.lit (.int .u64 v)], [.lit (.int .u64 r)], [.lit (.int .u64 f)]]⟩)] []] ?_ <;> and_intros <;> first | exact hdT | (apply zM; (repeat intro ht); apply zM; (repeat intro hg); apply zM)
            · rw [eX]; exact words_g (k + 5) (k + 4) wSpot (by decide) [g, c, v, r, f] (by simp) (by simp [hug, huc, g3, hur, g5])
            refine wl ?_ <;> and_intros <;> first | exact hdT | (apply zM; (repeat intro ht); apply zM; (repeat intro hg); apply zM)
            refine ⟨j + 1, by omega, by omega, ?_⟩
            rw [hsn, show ((j + 1 : Nat) : Int) = (j : Int) + 1 by omega]
            refine rR ?_ <;> first | exact hdT | apply zN
            exact Mv.app (k + 6) (k + 2) ⟨by omega, by omega⟩ ⟨by omega, by omega⟩ (wk_low (by omega) (by simp -dsimp -implicitDefEqProofs only [go_sem, hx, hwg, hwc, hwr, List.map_append, Flt.row, eq_self, ↓reduceIte]) (by simp -dsimp -implicitDefEqProofs only [go_sem, hx, hwg, hwc, hwr, List.map_append, Flt.row, eq_self, ↓reduceIte]) (by simp -dsimp -implicitDefEqProofs only [go_sem, hx, hwg, hwc, hwr, List.map_append, Flt.row, eq_self, ↓reduceIte]) (by simp -dsimp -implicitDefEqProofs only [go_sem, hx, hwg, hwc, hwr, List.map_append, Flt.row, eq_self, ↓reduceIte]))
        · have hje : j = d.n5 := by omega
          rw [hje] at eL
          have hfin : VLe (rows 1 L) (strs ((elsD d).map lnT)) := by
            rw [elsD_eq, show rows 1 L = rows 1 ((elL (cCk d) d.n0 ++ (elL (cCu d) d.n1 ++ (elL (cWg d) d.n2 ++ (elL (cGn d) d.n3 ++ (elL (cTk d) d.n4 ++ elL (cSp d) d.n5))))).map rowT) by rw [eL, eLR, eLQ, eLP]; simp only [preE, List.append_assoc]]
            exact rowT_strs _
          rw [eRES]
          clear eL
          rcases L with _ | ⟨x0, L⟩
          ·
            refine rR ?_ <;> first | exact hdT | apply zN
            refine wl ?_ <;> and_intros <;> first | exact hdT | (apply zM; (repeat intro ht); apply zM; (repeat intro hg); apply zM)
            exact C_ret rfl ⟨_, rfl, VLe.tups (.cons (fun w G ρ A cv hv => hfin w G ρ A cv (VLe.nil _ _ w G ρ A cv hv)) (.cons (VLe.refl _) .nil))⟩
          ·
            refine rR ?_ <;> first | exact hdT | apply zN
            refine wl ?_ <;> and_intros <;> first | exact hdT | (apply zM; (repeat intro ht); apply zM; (repeat intro hg); apply zM)
            refine W_mv (Mv.freeze (k + 2) (by simp -dsimp -implicitDefEqProofs only [go_sem, eq_self, ↓reduceIte]; rfl) rfl) ?_; simp -dsimp -implicitDefEqProofs only [frzF, frz_app, go_sem, eq_self, ↓reduceIte]
            refine C_ret rfl ⟨_, rfl, VLe.tups (.cons (fun w G ρ A cv hv => hfin w G ρ A cv (?_)) (.cons (VLe.refl _) .nil))⟩
            exact hv
end Go.Proofs.T
end
section
namespace Go.AM
open Go
theorem Tr_leR {P : Program} {Γ : List (Nat × List AVal)} {f : FuncId} {k k' : Nat} {args : List AVal} {r : AVal} {Hc H' : Heap} (h : Tr P Γ f k args Hc (fun k1 r1 H1 => k1 = k' ∧ VLe r1 r ∧ H1 = H')) : Tr P Γ f k args Hc (fun k1 r1 H1 => k1 = k' ∧ r1 = r ∧ H1 = H') := by
  intro A hA w G ρ cargs hrel hvs
  refine (h A hA w G ρ cargs hrel hvs).mono ?_
  rintro e w' ⟨cv, G', ρ', k1, r1, H1, rfl, ⟨rfl, hle, rfl⟩, hk, hrel', hV, hst⟩
  exact ⟨cv, G', ρ', _, r, _, rfl, ⟨rfl, rfl, rfl⟩, hk, hrel', hle _ _ _ _ _ hV, hst⟩
theorem Tr_leA {P : Program} {Γ : List (Nat × List AVal)} {f : FuncId} {k : Nat} {args args' : List AVal} {Hc : Heap} {Q : Nat → AVal → Heap → Prop} (h : Tr P Γ f k args' Hc Q) (hle : VLes args args') : Tr P Γ f k args Hc Q := by
  intro A hA w G ρ cargs hrel hvs
  have hle := hle.spec
  exact h A hA w G ρ cargs hrel ⟨by rw [← hle.1]; exact hvs.1, fun j v hj => by
    have hlt : j < args.length := by have := (List.getElem?_eq_some_iff.1 hj).1; have := hle.1; omega
    exact hle.2 j _ _ (List.getElem?_eq_getElem hlt) hj _ _ _ _ _ (hvs.2 j _ (List.getElem?_eq_getElem hlt))⟩
end Go.AM
namespace Go.Proofs.T
open Go Go.AM Go.Proofs Go.Lib
set_option maxRecDepth 20000
variable {Γ : List (Nat × List AVal)}
attribute [local irreducible] putO del
attribute [local go_sem] strs bd_slc
theorem lentR_row (l : List (List UInt8)) {j : Nat} (hj : j < l.length) : (lentR l 12)[j]? = some [.lit (.string (ByteArray.mk (l.getD j []).toArray))] := by
  rw [lentR, List.append_assoc, List.getElem?_append_left (by rw [List.length_map]; omega), List.getElem?_map, List.getD_eq_getElem?_getD, List.getElem?_eq_getElem hj]; rfl
theorem rdLs_len : ∀ (l : List (List UInt8)) (i : Nat) (last : Int) (acc : List El), (rdLs i last acc l).1.length ≤ acc.length + l.length
  | [], i, last, acc => by rw [rdLs]; simp
  | s :: r, i, last, acc => by
    rw [rdLs]
    split
    · rename_i e he
      split
      · simp
      · have := rdLs_len r (i + 1) e.kind (acc ++ [e])
        simp only [List.length_append, List.length_cons, List.length_nil] at this ⊢
        omega
    · simp
set_option maxHeartbeats 8000000 in
theorem lines35 (hG : GT Γ) (d : DE) (hr : DRng d) (hd : d.size < 9223372036854775808) (l : List (List UInt8)) : AM.Pure Tryz.prog Γ 14 [.agg d.cells, strs l] (.lit (.bool true)) := by
  have hsz : AM.Pure Tryz.prog Γ 26 [.agg d.cells] (.lit (.int .i64 (d.size : Int))) := dsize ⟨d.n0, d.n1, d.n2, d.n3, d.n4, d.n5, d.f0, d.f1, d.f2, d.f3, d.f4, d.f5⟩ hd
  obtain ⟨S, eS⟩ : ∃ S, S = d.size := ⟨_, rfl⟩
  rw [← eS] at hsz
  refine Pure_at Tryz.func14 rfl 89 rfl (Nat.le_of_ble_eq_true rfl) rfl fun k => ?_
  have kp : Kp [0,1,2,4,6,7,8,9,10,11,12,13,14,15,16,17,25,26,27,28,29,34] (fun i => i - k) := kpI
  refine wl ?_ <;> and_intros <;> first | exact hdT | (apply zM; (repeat intro ht); apply zM; (repeat intro hg); apply zM)
  refine cl [.ret (.lit (.int .i64 (S : Int)))] ?_ <;> and_intros <;> first | exact hdT | (apply zM; (repeat intro ht); apply zM; (repeat intro hg); apply zM)
  · exact hsz
  refine wl ?_ <;> and_intros <;> first | exact hdT | (apply zM; (repeat intro ht); apply zM; (repeat intro hg); apply zM)
  rotate_left
  rotate_left
  · refine wl ?_ <;> and_intros <;> first | exact hdT | (apply zM; (repeat intro ht); apply zM; (repeat intro hg); apply zM)
    exact C_ret rfl ⟨_, rfl, VLe.refl _⟩
  · refine wl ?_ <;> and_intros <;> first | exact hdT | (apply zM; (repeat intro ht); apply zM; (repeat intro hg); apply zM)
    exact C_ret rfl ⟨_, rfl, VLe.refl _⟩
  have hS60 : S ≤ 60 := by omega
  have hl60 : l.length ≤ 60 := by omega
  have hE := elsD_rng hr
  have hw := write_c hG d hr (by omega)
  have hrw := rWrite_c (Γ := Γ) d hr (by omega)
  have htn := turn_c (Γ := Γ) d (by omega)
  obtain ⟨WL, eWL, hWL⟩ : ∃ W, W = wrL (elsD d) ∧ W.length ≤ 60 := ⟨_, rfl, by
    have := elsD_len d
    unfold wrL; split <;> simp <;> omega⟩
  obtain ⟨WE, eWE⟩ : ∃ W, W = wrE (elsD d) := ⟨_, rfl⟩
  rw [← eWL, ← eWE] at hw hrw
  refine M_forO (X := Nat) rfl [0,1,2,4,6,7,8,9,10,11,12,13,14,15,16,17,25,26,27,28,29,34] (k + 1) (fun j => [(28, .lit (.int .i64 (j : Int)))]) (fun j => [(k, ⟨6, true, [d.cells]⟩)]) (fun j => j ≤ l.length ∧ ∀ i, i < j → (l.getD i []).length ≤ 300) (fun j => l.length - j) 0 ?_ ⟨Nat.zero_le _, fun i hi => absurd hi (Nat.not_lt_zero _)⟩ ?_
  · refine rR ?_ <;> first | exact hdT | apply zN
    exact wkF
  rintro j ⟨hj, hall⟩
  by_cases hlt : j < l.length
  · obtain ⟨s, es⟩ : ∃ s, s = l.getD j [] := ⟨_, rfl⟩
    have uU := Eq.symm (es)
    refine rR ?_ <;> first | exact hdT | apply zN
    refine wl ?_ <;> and_intros <;> first | exact hdT | (apply zM; (repeat intro ht); apply zM; (repeat intro hg); apply zM)
    · refine wl ?_ <;> and_intros <;> first | exact hdT | (apply zM; (repeat intro ht); apply zM; (repeat intro hg); apply zM)
      exact C_ret rfl ⟨_, rfl, VLe.refl _⟩
    · refine ⟨j + 1, ⟨by omega, fun i hi => ?_⟩, by omega, ?_⟩
      · by_cases h : i = j
        · subst h; rw [← es]; omega
        · exact hall i (by omega)
      · rw [show ((j + 1 : Nat) : Int) = (j : Int) + 1 by omega]
        exact Mv.wk (wk_low (by omega) (by simp -dsimp -implicitDefEqProofs only [go_sem, ← es, List.map_append, Flt.row, eq_self, ↓reduceIte]) (by simp -dsimp -implicitDefEqProofs only [go_sem, ← es, List.map_append, Flt.row, eq_self, ↓reduceIte]) (by simp -dsimp -implicitDefEqProofs only [go_sem, ← es, List.map_append, Flt.row, eq_self, ↓reduceIte]) (by simp -dsimp -implicitDefEqProofs only [go_sem, ← es, List.map_append, Flt.row, eq_self, ↓reduceIte]))
  have hje : j = l.length := by omega
  have h300 : ∀ s ∈ l, s.length ≤ 300 := fun s hs => by
    obtain ⟨i, hi, rfl⟩ := List.getElem_of_mem hs
    have := hall i (by omega)
    rw [List.getD_eq_getElem?_getD, List.getElem?_eq_getElem hi] at this
    exact this
  obtain ⟨n, en, hn60⟩ : ∃ n, n = l.length ∧ n ≤ 60 := ⟨_, rfl, by omega⟩
  obtain ⟨m, em⟩ : ∃ m, m = n + 12 := ⟨_, rfl⟩
  obtain ⟨A, eA⟩ : ∃ A, A = lentR l 12 := ⟨_, rfl⟩
  obtain ⟨dR, edR⟩ : ∃ x, x = dE (rdLs 0 0 [] l).1 := ⟨_, rfl⟩
  obtain ⟨z1, ez1⟩ : ∃ x, x = (rdLs 0 0 [] l).2.1 := ⟨_, rfl⟩
  obtain ⟨z2, ez2⟩ : ∃ x, x = (rdLs 0 0 [] l).2.2 := ⟨_, rfl⟩
  have hlent := lent_t (Γ := Γ) l (by omega) (k + 1)
  have hread := Tr_leA (Tr_leR (read_o (Γ := Γ) hG l (by omega) h300 (k + 2) (k + 1) (by omega) (lentR l 12) (by rw [lentR_len l (Nat.le_refl _)]; omega) (fun j hj => lentR_row l hj))) (args := [.slc (k + 1) 0 l.length (l.length + 12)]) (.cons (VLe.slc _ _ _ _) .nil)
  have hrr := rRead35_c (Γ := Γ) l (by omega) h300
  have hst := sameT_c (Γ := Γ) WL WL (by omega) (by omega)
  rw [decide_eq_true rfl] at hst
  have hkt := kept_t (Γ := Γ) l (by omega) (k + 5) (k + 1) (by omega)
  unfold strs at hlent hkt
  rw [← eA, ← en, ← em] at hlent
  rw [← eA, ← en, ← em, ← edR, ← ez1, ← ez2] at hread
  rw [← edR, ← ez1, ← ez2, strs, ← en] at hrr
  rw [← eA, ← en, ← em] at hkt
  have uU := Eq.symm (en)
  refine rR ?_ <;> first | exact hdT | apply zN
  refine wl ?_ <;> and_intros <;> first | exact hdT | (apply zM; (repeat intro ht); apply zM; (repeat intro hg); apply zM)
  refine cl [.gen (.slc (k + 1) 0 n m) (k + 2) [] [(k + 1, ⟨1, true, A⟩)]] ?_ <;> and_intros <;> first | exact hdT | (apply zM; (repeat intro ht); apply zM; (repeat intro hg); apply zM)
  refine wl ?_ <;> and_intros <;> first | exact hdT | (apply zM; (repeat intro ht); apply zM; (repeat intro hg); apply zM)
  refine cl [.ret (.tup [strs WL, .lit (.int .i64 WE)])] ?_ <;> and_intros <;> first | exact hdT | (apply zM; (repeat intro ht); apply zM; (repeat intro hg); apply zM)
  · exact hw
  refine wl ?_ <;> and_intros <;> first | exact hdT | (apply zM; (repeat intro ht); apply zM; (repeat intro hg); apply zM)
  refine cl [.ret (.agg d.cells), .ret (.tup [strs WL, .lit (.int .i64 WE)])] ?_ <;> and_intros <;> first | exact hdT | (apply zM; (repeat intro ht); apply zM; (repeat intro hg); apply zM)
  · exact htn
  · exact hrw
  refine wl ?_ <;> and_intros <;> first | exact hdT | (apply zM; (repeat intro ht); apply zM; (repeat intro hg); apply zM)
  refine cl [.gen (.tup [.agg dR.cells, .lit (.int .i64 z1), .lit (.int .i64 z2)]) (k + 3) [(k + 1, ⟨1, true, A⟩)] [(k + 2, ⟨6, true, [dR.cells]⟩), (k + 1, ⟨1, true, A⟩)]] ?_ <;> and_intros <;> first | exact hdT | (apply zM; (repeat intro ht); apply zM; (repeat intro hg); apply zM)
  · exact hread
  refine wl ?_ <;> and_intros <;> first | exact hdT | (apply zM; (repeat intro ht); apply zM; (repeat intro hg); apply zM)
  refine cl [.ret (.tup [.agg dR.cells, .lit (.int .i64 z1), .lit (.int .i64 z2)])] ?_ <;> and_intros <;> first | exact hdT | (apply zM; (repeat intro ht); apply zM; (repeat intro hg); apply zM)
  · exact hrr
  refine wl ?_ <;> and_intros <;> first | exact hdT | (apply zM; (repeat intro ht); apply zM; (repeat intro hg); apply zM)
  have hdR : dR.size ≤ 100000 := by
    have h1 := dE_size (rdLs 0 0 [] l).1
    have h2 := rdLs_len l 0 0 []
    rw [← edR] at h1
    simp only [List.length_nil] at h2
    omega
  have his := is_d (Γ := Γ) dR dR hdR hdR
  rw [eqD_self] at his
  have b1 : (WE == WE) = true := beq_self_eq_true WE
  have b2 : (z1 == z1) = true := beq_self_eq_true z1
  have b3 : (z2 == z2) = true := beq_self_eq_true z2
  have uU := zA @b1 (zA @b2 (zA @b3 (Eq.symm (en))))
  refine cl [.ret (.lit (.bool true)), .ret (.lit (.bool true)), .gen (.lit (.bool true)) (k + 5) [(k + 1, ⟨1, true, A⟩)] [(k + 1, ⟨1, true, A⟩)]] ?_ <;> and_intros <;> first | exact hdT | (apply zM; (repeat intro ht); apply zM; (repeat intro hg); apply zM)
  · exact hst
  · exact his
  refine wl ?_ <;> and_intros <;> first | exact hdT | (apply zM; (repeat intro ht); apply zM; (repeat intro hg); apply zM)
  exact C_ret rfl ⟨_, rfl, VLe.refl _⟩
end Go.Proofs.T
end
section
namespace Go.Proofs.T
open Go Go.AM Go.Proofs Go.Lib
set_option maxRecDepth 20000
variable {Γ : List (Nat × List AVal)}
theorem itoF_eq (n : Int) (h0 : -9223372036854775808 ≤ n) (h1 : n ≤ 9223372036854775807) : itoF n = Lib.itoa n := by
  cases n with
  | ofNat u =>
    have hu : u < 10 ^ 20 := by have h2 : u ≤ 9223372036854775807 := Int.ofNat_le.1 h1; clear h1 h0; omega
    show digF 20 u = _
    rw [digF_dec 19 u hu, Lib.itoa, if_neg (show ¬ (Int.ofNat u < 0) from Int.not_lt.2 (Int.natCast_nonneg u))]; rfl
  | negSucc u =>
    have hu : u + 1 < 10 ^ 20 := by have : -((u : Int) + 1) ≥ -9223372036854775808 := by rw [← Int.negSucc_eq]; exact h0
                                    omega
    show 45 :: digF 20 (u + 1) = _
    rw [digF_dec 19 (u + 1) hu, Lib.itoa, if_pos (Int.negSucc_lt_zero u)]; rfl
theorem wordsF_ne : ∀ l, wordsF l ≠ []
  | [] => by simp [wordsF]
  | c :: r => by
    rw [wordsF]
    split
    · simp
    · simp
    · simp
theorem wordsF_32 : ∀ l, ∀ w ∈ wordsF l, (32 : UInt8) ∉ w
  | [] => by simp [wordsF]
  | c :: r => by
    have ih := wordsF_32 r
    rw [wordsF]
    split
    · intro w hw
      rcases List.mem_cons.1 hw with rfl | hw
      · simp
      · exact ih w hw
    · rename_i w ws h1 h2
      intro x hx
      rcases List.mem_cons.1 hx with rfl | hx
      · intro hm
        rcases List.mem_cons.1 hm with e | hm
        · rw [← e] at h1; simp at h1
        · exact ih w (by rw [h2]; simp) hm
      · exact ih x (by rw [h2]; exact List.mem_cons_of_mem _ hx)
    · rename_i h1 h2
      exact absurd h2 (wordsF_ne r)
theorem jn_head (c : UInt8) (w : List UInt8) (ws : List (List UInt8)) : jn ((c :: w) :: ws) = c :: jn (w :: ws) := by
  cases ws with
  | nil => rfl
  | cons x r => rfl
theorem wordsF_jn : ∀ l, jn (wordsF l) = l
  | [] => rfl
  | c :: r => by
    have ih := wordsF_jn r
    rw [wordsF]
    split
    · rename_i ws h1
      rw [jn_cons (wordsF_ne r), ih]
      have : c = 32 := by
        have h : c.toNat = 32 := by simpa using h1
        exact UInt8.toNat_inj.1 (by rw [h]; rfl)
      rw [this]; rfl
    · rename_i w ws h1 h2
      rw [jn_head, ← h2, ih]
    · rename_i h1 h2
      exact absurd h2 (wordsF_ne r)
theorem wordsF_split (l : List UInt8) : Lib.split l [32] = wordsF l := by
  have := split_jn (wordsF_ne l) (wordsF_32 l)
  rw [wordsF_jn] at this; exact this
def shortB (s : ByteArray) : Bool := Nat.ble s.data.toList.length 4294967280
def tabD (f : FuncId) (k : Nat) (args : List AVal) (H : Heap) : Option (Nat × AVal × Heap) :=
  match H with
  | [] => match f, args with
    | 216, [.lit (.int .i64 n)] => match decide (-9223372036854775808 ≤ n), decide (n ≤ 9223372036854775807) with
      | true, true => some (k, .lit (.string (str (itoF n))), [])
      | _, _ => none
    | 219, [.lit (.int .u64 (.ofNat u)), .lit (.int .i64 10)] => match Nat.blt u 18446744073709551616 with
      | true => some (k, .lit (.string (str (digF 20 u))), [])
      | false => none
    | 144, [.lit (.string s), .lit (.string p)] => match shortB s, decide (p.data.toList = [32]) with
      | true, true => some (k, strs (wordsF s.data.toList), [])
      | _, _ => none
    | 150, [.lit (.string s)] => match shortB s with
      | true => match atoiAll s.data.toList with
        | .ok v => some (k, .tup [.lit (.int .i64 v), .lit .nilIface], [])
        | _ => some (k, .tup [.lit (.int .i64 (atoiV s.data.toList)), .junk], [])
      | false => none
    | 152, [.lit (.string s), .lit (.int .i64 10), .lit (.int .i64 b)] => match shortB s with
      | true => match b with
        | 64 => some (k, .tup [.lit (.int .u64 (puV 64 s.data.toList)), .junk], [])
        | 32 => some (k, .tup [.lit (.int .u64 (puV 32 s.data.toList)), .junk], [])
        | _ => none
      | false => none
    | 224, [.lit (.string s), .lit (.string p)] => match shortB s with
      | true => some (k, .tup [.lit (.string (str (Lib.cut s.data.toList p.data.toList).1)), .lit (.string (str (Lib.cut s.data.toList p.data.toList).2.1)), .lit (.bool (Lib.cut s.data.toList p.data.toList).2.2)], [])
      | false => none
    | 225, [.lit (.string s), .lit (.string p)] => match shortB s with
      | true => some (k, .lit (.bool (Lib.contains s.data.toList p.data.toList)), [])
      | false => none
    | _, _ => none
  | _ :: _ => none
def xtD (P : Program) (Γ : List (Nat × List AVal)) : Xt := ⟨opD P Γ, mapNx, tabD⟩
theorem short_len {s : ByteArray} (h : shortB s = true) : s.data.toList.length < 4294967281 := by
  have := Nat.le_of_ble_eq_true h; omega
theorem tabD_ok (hG : GT Γ) {f : FuncId} {k : Nat} {args : List AVal} {H : Heap} {k' : Nat} {v : AVal} {H' : Heap} (h : tabD f k args H = some (k', v, H')) : Tr Tryz.prog Γ f k args H (fun k1 r1 H1 => k1 = k' ∧ r1 = v ∧ H1 = H') := by
  unfold tabD at h
  split at h
  · split at h
    · rename_i n
      split at h
      · rename_i h1 h2
        cases h
        have h1 := of_decide_eq_true h1
        have h2 := of_decide_eq_true h2
        rw [itoF_eq n h1 h2]
        exact itoa_c hG n h1 h2 k
      · cases h
    · rename_i u
      split at h
      · rename_i h1
        cases h
        have hu : u < 18446744073709551616 := by rw [Nat.blt_eq] at h1; exact h1
        rw [digF_dec 19 u (by omega)]
        exact fmt_c hG u hu k
      · cases h
    · rename_i s p
      split at h
      · rename_i h1 h2
        cases h
        have h2 := of_decide_eq_true h2
        have e : p = str [32] := by rw [← str_data p, h2]
        rw [← wordsF_split, e]
        have := split_c hG s.data.toList (short_len h1) k
        exact this
      · cases h
    · rename_i s
      split at h
      · rename_i h1
        have hl : s.data.toList.length ≤ 281474976710656 := by have := short_len h1; omega
        split at h
        · rename_i v hv
          cases h
          have := atoi_ok hG s.data.toList hl v hv k
          exact this
        · cases h
          have := atoi_c hG s.data.toList hl k
          exact this
      · cases h
    · rename_i s b
      split at h
      · rename_i h1
        have hl : s.data.toList.length ≤ 281474976710656 := by have := short_len h1; omega
        split at h
        · cases h
          have := pu64_c hG s.data.toList hl k
          exact this
        · cases h
          have := pu32_c hG s.data.toList hl k
          exact this
        · cases h
      · cases h
    · rename_i s p
      split at h
      · rename_i h1
        cases h
        have := cut_c hG s.data.toList p.data.toList (short_len h1) k
        exact this
      · cases h
    · rename_i s p
      split at h
      · rename_i h1
        cases h
        have := contains_c hG s.data.toList p.data.toList (short_len h1) k
        exact this
      · cases h
    · cases h
  · cases h
theorem xtD_ok (hG : GT Γ) : XtOk Tryz.prog Γ (xtD Tryz.prog Γ) := ⟨fun _ _ _ _ _ h => opD_good h, fun _ _ _ _ _ h => mapNx_good h, fun _ _ _ _ _ _ _ h => tabD_ok hG h⟩
end Go.Proofs.T
end
section
namespace Go.Proofs.T
open Go Go.AM Go.Proofs
set_option maxRecDepth 100000
variable {Γ : List (Nat × List AVal)}
def awq0 : Nat × AVal := (0, .lit (.bool false))
def awq1 : Nat × AVal := (1, .ptr 37 0 0)
def awq2 : Nat × AVal := (2, .ptr 38 0 0)
def awq3 : Nat × AVal := (3, .sl 35 0 4)
def awq4 : Nat × AVal := (4, .sl 36 0 4)
def awq5 : Nat × Blk := (10, ⟨2, true, [[.lit (.int .i64 0), .lit (.int .i64 1)]]⟩)
def awq6 : Nat × Blk := (12, ⟨1, true, [[.lit (.int .i64 0)], [.lit (.int .i64 0)]]⟩)
def awq7 : Nat × Blk := (14, ⟨1, true, [[.lit (.int .i64 0)], [.lit (.int .i64 0)]]⟩)
def awq8 : Nat × Blk := (15, ⟨8, true, []⟩)
def awq9 : Nat × Blk := (17, ⟨3, true, [[.lit (.int .u64 0), .lit (.int .u32 0), .lit (.int .u64 0)], [.lit (.int .u64 0), .lit (.int .u32 0), .lit (.int .u64 0)]]⟩)
def awq10 : Nat × Blk := (19, ⟨1, false, [[.sl 17 0 2]]⟩)
def awq11 : Nat × Blk := (23, ⟨3, true, [[.lit (.int .u64 0), .lit (.int .u32 0), .lit (.int .u64 3072)], [.lit (.int .u64 0), .lit (.int .u32 0), .lit (.int .u64 0)]]⟩)
def awq12 : Nat × Blk := (25, ⟨1, false, [[.sl 23 0 2]]⟩)
def awq13 : Nat × Blk := (28, ⟨2, true, [[.lit (.int .i64 0), .lit (.int .i64 1)]]⟩)
def awq14 : Nat × Blk := (32, ⟨1, true, [[.lit (.int .i64 3)], [.lit (.int .i64 0)]]⟩)
def awq15 : Nat × Blk := (33, ⟨1, true, [[.lit (.int .i64 5)], [.lit (.int .i64 0)]]⟩)
def awq16 : Nat × Blk := (34, ⟨8, true, [[.lit (.int .i64 5), .lit (.int .i64 0), .lit (.int .i64 1024), .lit (.int .i64 0), .lit (.int .u64 1), .lit (.bool true), .lit (.int .u64 3072), .lit (.int .u32 0)]]⟩)
def awq17 : Nat × Blk := (35, ⟨1, true, [[.lit (.string ⟨#[99, 108, 111, 99, 107, 32, 48, 32, 51]⟩)], [.lit (.string ⟨#[99, 117, 114, 114, 101, 110, 116, 32, 48, 32, 53]⟩)], [.lit (.string ⟨#[116, 97, 115, 107, 32, 53, 32, 48, 32, 49, 48, 50, 52, 32, 48, 32, 48, 32, 114, 101, 97, 100, 121, 32, 51, 48, 55, 50, 32, 48]⟩)], [.lit (.string ⟨#[115, 112, 111, 116, 32, 48, 32, 48, 32, 48, 32, 48, 32, 51, 48, 55, 50]⟩)]]⟩)
def awq18 : Nat × Blk := (36, ⟨1, true, [[.lit (.string ⟨#[99, 108, 111, 99, 107, 32, 48, 32, 48]⟩)], [.lit (.string ⟨#[99, 117, 114, 114, 101, 110, 116, 32, 48, 32, 48]⟩)], [.lit (.string ⟨#[103, 111, 110, 101, 32, 53]⟩)], [.lit (.string ⟨#[115, 112, 111, 116, 32, 48, 32, 48, 32, 48, 32, 48, 32, 48]⟩)]]⟩)
def awq19 : Nat × Blk := (37, ⟨7, false, [[.lit (.int .i64 2), .lit (.int .u64 0), .sl 10 0 1, .sl 12 0 2, .sl 14 0 2, .slc 15 0 0 0, .sl 19 0 1]]⟩)
def awq20 : Nat × Blk := (38, ⟨7, false, [[.lit (.int .i64 2), .lit (.int .u64 0), .sl 28 0 1, .sl 32 0 2, .sl 33 0 2, .sl 34 0 1, .sl 25 0 1]]⟩)
def awq21 : Nat × AVal := (5, .ptr 113 0 0)
def awq22 : Nat × AVal := (6, .lit (.int .i64 0))
def awq23 : Nat × Blk := (97, ⟨2, true, [[.lit (.int .i64 0), .lit (.int .i64 3)]]⟩)
def awq24 : Nat × Blk := (99, ⟨2, true, [[.lit (.int .i64 0), .lit (.int .i64 5)]]⟩)
def awq25 : Nat × Blk := (105, ⟨8, true, [[.lit (.int .i64 5), .lit (.int .i64 0), .lit (.int .i64 1024), .lit (.int .i64 0), .lit (.int .u64 1), .lit (.bool true), .lit (.int .u64 3072), .lit (.int .u32 0)]]⟩)
def awq26 : Nat × Blk := (111, ⟨5, true, [[.lit (.int .i64 0), .lit (.int .i64 0), .lit (.int .u64 0), .lit (.int .u32 0), .lit (.int .u64 3072)]]⟩)
def awq27 : Nat × Blk := (113, ⟨6, false, [[.sl 97 0 1, .sl 99 0 1, .lit (.slice none 0 0), .lit (.slice none 0 0), .sl 105 0 1, .sl 111 0 1]]⟩)
def awq28 : Nat × AVal := (7, .ptr 197 0 0)
def awq29 : Nat × AVal := (8, .lit (.int .i64 0))
def awq30 : Nat × Blk := (182, ⟨2, true, [[.lit (.int .i64 0), .lit (.int .i64 0)]]⟩)
def awq31 : Nat × Blk := (184, ⟨2, true, [[.lit (.int .i64 0), .lit (.int .i64 0)]]⟩)
def awq32 : Nat × Blk := (190, ⟨1, true, [[.lit (.int .i64 5)]]⟩)
def awq33 : Nat × Blk := (195, ⟨5, true, [[.lit (.int .i64 0), .lit (.int .i64 0), .lit (.int .u64 0), .lit (.int .u32 0), .lit (.int .u64 0)]]⟩)
def awq34 : Nat × Blk := (197, ⟨6, false, [[.sl 182 0 1, .sl 184 0 1, .lit (.slice none 0 0), .sl 190 0 1, .lit (.slice none 0 0), .sl 195 0 1]]⟩)
def awq35 : Nat × AVal := (9, .sl 239 0 4)
def awq36 : Nat × AVal := (10, .lit (.int .i64 0))
def awq37 : Nat × Blk := (239, ⟨1, true, [[.lit (.string ⟨#[99, 108, 111, 99, 107, 32, 48, 32, 51]⟩)], [.lit (.string ⟨#[99, 117, 114, 114, 101, 110, 116, 32, 48, 32, 53]⟩)], [.lit (.string ⟨#[116, 97, 115, 107, 32, 53, 32, 48, 32, 49, 48, 50, 52, 32, 48, 32, 48, 32, 114, 101, 97, 100, 121, 32, 51, 48, 55, 50, 32, 48]⟩)], [.lit (.string ⟨#[115, 112, 111, 116, 32, 48, 32, 48, 32, 48, 32, 48, 32, 51, 48, 55, 50]⟩)]]⟩)
def awq38 : Nat × AVal := (11, .sl 275 0 4)
def awq39 : Nat × AVal := (12, .lit (.int .i64 0))
def awq40 : Nat × Blk := (275, ⟨1, true, [[.lit (.string ⟨#[99, 108, 111, 99, 107, 32, 48, 32, 48]⟩)], [.lit (.string ⟨#[99, 117, 114, 114, 101, 110, 116, 32, 48, 32, 48]⟩)], [.lit (.string ⟨#[103, 111, 110, 101, 32, 53]⟩)], [.lit (.string ⟨#[115, 112, 111, 116, 32, 48, 32, 48, 32, 48, 32, 48, 32, 48]⟩)]]⟩)
def awq41 : Nat × AVal := (13, .ptr 392 0 0)
def awq42 : Nat × AVal := (14, .lit (.int .i64 0))
def awq43 : Nat × Blk := (300, ⟨2, true, [[.lit (.int .i64 0), .lit (.int .i64 1)]]⟩)
def awq44 : Nat × Blk := (302, ⟨1, true, [[.lit (.int .i64 3)], [.lit (.int .i64 0)]]⟩)
def awq45 : Nat × Blk := (304, ⟨1, true, [[.lit (.int .i64 5)], [.lit (.int .i64 0)]]⟩)
def awq46 : Nat × Blk := (307, ⟨1, false, [[.sl 309 0 2]]⟩)
def awq47 : Nat × Blk := (309, ⟨3, true, [[.lit (.int .u64 0), .lit (.int .u32 0), .lit (.int .u64 3072)], [.lit (.int .u64 0), .lit (.int .u32 0), .lit (.int .u64 0)]]⟩)
def awq48 : Nat × Blk := (313, ⟨8, true, [[.lit (.int .i64 5), .lit (.int .i64 0), .lit (.int .i64 1024), .lit (.int .i64 0), .lit (.int .u64 1), .lit (.bool true), .lit (.int .u64 3072), .lit (.int .u32 0)]]⟩)
def awq49 : Nat × Blk := (392, ⟨7, false, [[.lit (.int .i64 2), .lit (.int .u64 0), .sl 300 0 1, .sl 302 0 2, .sl 304 0 2, .sl 313 0 1, .sl 307 0 1]]⟩)
def awq50 : Nat × AVal := (84, .lit (.bool false))
def awq51 : Nat × Blk := (113, ⟨6, false, [[.sl 97 0 1, .sl 99 0 1, .lit (.slice none 0 0), .lit (.slice none 0 0), .lit (.slice none 0 0), .sl 111 0 1]]⟩)
def awq52 : Nat × AVal := (16, .lit (.int .i64 352))
def awq53 : Nat × AVal := (18, .lit (.int .i64 0))
def awq54 : Nat × AVal := (19, .lit (.int .i64 353))
theorem aw0 : stOk (evCodeX (xtD Tryz.prog Γ) (evX (xtD Tryz.prog Γ) Tryz.prog Γ 400) Tryz.prog Γ 125 (cat (bodyOf Tryz.f13) [0]) 0 [] []) 0 [awq0] [] = true := by kernel_rfl
theorem aw1 : stOk (evCodeX (xtD Tryz.prog Γ) (evX (xtD Tryz.prog Γ) Tryz.prog Γ 400) Tryz.prog Γ 125 (cat (bodyOf Tryz.f13) [0, 1]) 0 [awq0] []) 39 [awq0, awq1, awq2, awq3, awq4] [awq5, awq6, awq7, awq8, awq9, awq10, awq11, awq12, awq13, awq14, awq15, awq16, awq17, awq18, awq19, awq20] = true := by kernel_rfl
theorem aw2 : stOk (evCodeX (xtD Tryz.prog Γ) (evX (xtD Tryz.prog Γ) Tryz.prog Γ 400) Tryz.prog Γ 125 (cat (bodyOf Tryz.f13) [0, 1, 1]) 39 [awq0, awq1, awq2, awq3, awq4] [awq5, awq6, awq7, awq8, awq9, awq10, awq11, awq12, awq13, awq14, awq15, awq16, awq17, awq18, awq19, awq20]) 114 [awq4, awq3, awq2, awq1, awq0, awq21, awq22] [awq5, awq6, awq7, awq8, awq9, awq10, awq11, awq12, awq13, awq14, awq15, awq16, awq17, awq18, awq19, awq20, awq23, awq24, awq25, awq26, awq27] = true := by kernel_rfl
theorem aw3 : stOk (evCodeX (xtD Tryz.prog Γ) (evX (xtD Tryz.prog Γ) Tryz.prog Γ 400) Tryz.prog Γ 125 (cat (bodyOf Tryz.f13) [0, 1, 1, 1]) 114 [awq4, awq3, awq2, awq1, awq0, awq21, awq22] [awq5, awq6, awq7, awq8, awq9, awq10, awq11, awq12, awq13, awq14, awq15, awq16, awq17, awq18, awq19, awq20, awq23, awq24, awq25, awq26, awq27]) 198 [awq22, awq21, awq0, awq1, awq2, awq3, awq4, awq28, awq29] [awq5, awq6, awq7, awq8, awq9, awq10, awq11, awq12, awq13, awq14, awq15, awq16, awq17, awq18, awq19, awq20, awq23, awq24, awq25, awq26, awq27, awq30, awq31, awq32, awq33, awq34] = true := by kernel_rfl
theorem aw4 : stOk (evCodeX (xtD Tryz.prog Γ) (evX (xtD Tryz.prog Γ) Tryz.prog Γ 400) Tryz.prog Γ 125 (cat (bodyOf Tryz.f13) [0, 1, 1, 1, 1]) 198 [awq22, awq21, awq0, awq1, awq2, awq3, awq4, awq28, awq29] [awq5, awq6, awq7, awq8, awq9, awq10, awq11, awq12, awq13, awq14, awq15, awq16, awq17, awq18, awq19, awq20, awq23, awq24, awq25, awq26, awq27, awq30, awq31, awq32, awq33, awq34]) 240 [awq29, awq28, awq4, awq3, awq2, awq1, awq0, awq21, awq22, awq35, awq36] [awq5, awq6, awq7, awq8, awq9, awq10, awq11, awq12, awq13, awq14, awq15, awq16, awq17, awq18, awq19, awq20, awq23, awq24, awq25, awq26, awq27, awq30, awq31, awq32, awq33, awq34, awq37] = true := by kernel_rfl
theorem aw5 : stOk (evCodeX (xtD Tryz.prog Γ) (evX (xtD Tryz.prog Γ) Tryz.prog Γ 400) Tryz.prog Γ 125 (cat (bodyOf Tryz.f13) [0, 1, 1, 1, 1, 1]) 240 [awq29, awq28, awq4, awq3, awq2, awq1, awq0, awq21, awq22, awq35, awq36] [awq5, awq6, awq7, awq8, awq9, awq10, awq11, awq12, awq13, awq14, awq15, awq16, awq17, awq18, awq19, awq20, awq23, awq24, awq25, awq26, awq27, awq30, awq31, awq32, awq33, awq34, awq37]) 276 [awq36, awq35, awq22, awq21, awq0, awq1, awq2, awq3, awq4, awq28, awq29, awq38, awq39] [awq5, awq6, awq7, awq8, awq9, awq10, awq11, awq12, awq13, awq14, awq15, awq16, awq17, awq18, awq19, awq20, awq23, awq24, awq25, awq26, awq27, awq30, awq31, awq32, awq33, awq34, awq37, awq40] = true := by kernel_rfl
theorem aw6 : stOk (evCodeX (xtD Tryz.prog Γ) (evX (xtD Tryz.prog Γ) Tryz.prog Γ 400) Tryz.prog Γ 125 (cat (bodyOf Tryz.f13) [0, 1, 1, 1, 1, 1, 1]) 276 [awq36, awq35, awq22, awq21, awq0, awq1, awq2, awq3, awq4, awq28, awq29, awq38, awq39] [awq5, awq6, awq7, awq8, awq9, awq10, awq11, awq12, awq13, awq14, awq15, awq16, awq17, awq18, awq19, awq20, awq23, awq24, awq25, awq26, awq27, awq30, awq31, awq32, awq33, awq34, awq37, awq40]) 393 [awq39, awq38, awq29, awq28, awq4, awq3, awq2, awq1, awq0, awq21, awq22, awq35, awq36, awq41, awq42] [awq5, awq6, awq7, awq8, awq9, awq10, awq11, awq12, awq13, awq14, awq15, awq16, awq17, awq18, awq19, awq20, awq23, awq24, awq25, awq26, awq27, awq30, awq31, awq32, awq33, awq34, awq37, awq40, awq43, awq44, awq45, awq46, awq47, awq48, awq49] = true := by kernel_rfl
theorem aw7 : stOk (evCodeX (xtD Tryz.prog Γ) (evX (xtD Tryz.prog Γ) Tryz.prog Γ 400) Tryz.prog Γ 125 (cat (bodyOf Tryz.f13) [0, 1, 1, 1, 1, 1, 1, 1]) 393 [awq39, awq38, awq29, awq28, awq4, awq3, awq2, awq1, awq0, awq21, awq22, awq35, awq36, awq41, awq42] [awq5, awq6, awq7, awq8, awq9, awq10, awq11, awq12, awq13, awq14, awq15, awq16, awq17, awq18, awq19, awq20, awq23, awq24, awq25, awq26, awq27, awq30, awq31, awq32, awq33, awq34, awq37, awq40, awq43, awq44, awq45, awq46, awq47, awq48, awq49]) 397 [awq42, awq41, awq36, awq35, awq22, awq21, awq0, awq1, awq2, awq3, awq4, awq28, awq29, awq38, awq39, awq50] [awq5, awq6, awq7, awq8, awq9, awq10, awq11, awq12, awq13, awq14, awq15, awq16, awq17, awq18, awq19, awq20, awq23, awq24, awq25, awq26, awq27, awq30, awq31, awq32, awq33, awq34, awq37, awq40, awq43, awq44, awq45, awq46, awq47, awq48, awq49] = true := by kernel_rfl
theorem aw8 : stOk (evCodeX (xtD Tryz.prog Γ) (evX (xtD Tryz.prog Γ) Tryz.prog Γ 400) Tryz.prog Γ 125 (cat (bodyOf Tryz.f13) [0, 1, 1, 1, 1, 1, 1, 1, 1]) 397 [awq42, awq41, awq36, awq35, awq22, awq21, awq0, awq1, awq2, awq3, awq4, awq28, awq29, awq38, awq39, awq50] [awq5, awq6, awq7, awq8, awq9, awq10, awq11, awq12, awq13, awq14, awq15, awq16, awq17, awq18, awq19, awq20, awq23, awq24, awq25, awq26, awq27, awq30, awq31, awq32, awq33, awq34, awq37, awq40, awq43, awq44, awq45, awq46, awq47, awq48, awq49]) 397 [awq50, awq39, awq38, awq29, awq28, awq4, awq3, awq2, awq1, awq0, awq21, awq22, awq35, awq36, awq41, awq42] [awq5, awq6, awq7, awq8, awq9, awq10, awq11, awq12, awq13, awq14, awq15, awq16, awq17, awq18, awq19, awq20, awq23, awq24, awq26, awq51, awq30, awq31, awq32, awq33, awq34, awq37, awq40, awq43, awq44, awq45, awq46, awq47, awq48, awq49] = true := by kernel_rfl
theorem aw9 : stOk (evCodeX (xtD Tryz.prog Γ) (evX (xtD Tryz.prog Γ) Tryz.prog Γ 400) Tryz.prog Γ 125 (cat (bodyOf Tryz.f13) [0, 1, 1, 1, 1, 1, 1, 1, 1, 1]) 397 [awq50, awq39, awq38, awq29, awq28, awq4, awq3, awq2, awq1, awq0, awq21, awq22, awq35, awq36, awq41, awq42] [awq5, awq6, awq7, awq8, awq9, awq10, awq11, awq12, awq13, awq14, awq15, awq16, awq17, awq18, awq19, awq20, awq23, awq24, awq26, awq51, awq30, awq31, awq32, awq33, awq34, awq37, awq40, awq43, awq44, awq45, awq46, awq47, awq48, awq49]) 476 [awq42, awq41, awq36, awq35, awq22, awq21, awq0, awq1, awq2, awq3, awq4, awq28, awq29, awq38, awq39, awq50, awq52] [awq5, awq6, awq7, awq8, awq9, awq10, awq11, awq12, awq13, awq14, awq15, awq16, awq17, awq18, awq19, awq20, awq23, awq24, awq26, awq51, awq30, awq31, awq32, awq33, awq34, awq37, awq40, awq43, awq44, awq45, awq46, awq47, awq48, awq49] = true := by kernel_rfl
theorem aw10 : stOk (evCodeX (xtD Tryz.prog Γ) (evX (xtD Tryz.prog Γ) Tryz.prog Γ 400) Tryz.prog Γ 125 (cat (bodyOf Tryz.f13) [0, 1, 1, 1, 1, 1, 1, 1, 1, 1, 1]) 476 [awq42, awq41, awq36, awq35, awq22, awq21, awq0, awq1, awq2, awq3, awq4, awq28, awq29, awq38, awq39, awq50, awq52] [awq5, awq6, awq7, awq8, awq9, awq10, awq11, awq12, awq13, awq14, awq15, awq16, awq17, awq18, awq19, awq20, awq23, awq24, awq26, awq51, awq30, awq31, awq32, awq33, awq34, awq37, awq40, awq43, awq44, awq45, awq46, awq47, awq48, awq49]) 508 [awq52, awq50, awq39, awq38, awq29, awq28, awq4, awq3, awq2, awq1, awq0, awq21, awq22, awq35, awq36, awq41, awq42, awq53, awq54] [awq5, awq6, awq7, awq8, awq9, awq10, awq11, awq12, awq13, awq14, awq15, awq16, awq17, awq18, awq19, awq20, awq23, awq24, awq26, awq51, awq30, awq31, awq32, awq33, awq34, awq37, awq40, awq43, awq44, awq45, awq46, awq47, awq48, awq49] = true := by kernel_rfl
theorem aw11 : stOk (evCodeX (xtD Tryz.prog Γ) (evX (xtD Tryz.prog Γ) Tryz.prog Γ 400) Tryz.prog Γ 125 (cat (bodyOf Tryz.f13) [0, 1, 1, 1, 1, 1, 1, 1, 1, 1, 1, 1]) 508 [awq52, awq50, awq39, awq38, awq29, awq28, awq4, awq3, awq2, awq1, awq0, awq21, awq22, awq35, awq36, awq41, awq42, awq53, awq54] [awq5, awq6, awq7, awq8, awq9, awq10, awq11, awq12, awq13, awq14, awq15, awq16, awq17, awq18, awq19, awq20, awq23, awq24, awq26, awq51, awq30, awq31, awq32, awq33, awq34, awq37, awq40, awq43, awq44, awq45, awq46, awq47, awq48, awq49]) 559 [awq54, awq53, awq42, awq41, awq36, awq35, awq22, awq21, awq0, awq1, awq2, awq3, awq4, awq28, awq29, awq38, awq39, awq50, awq52, (21, .lit (.int .i64 1)), (22, .lit (.int .i64 353))] [awq5, awq6, awq7, awq8, awq9, awq10, awq11, awq12, awq13, awq14, awq15, awq16, awq17, awq18, awq19, awq20, awq23, awq24, awq26, awq51, awq30, awq31, awq32, awq33, awq34, awq37, awq40, awq43, awq44, awq45, awq46, awq47, awq48, awq49] = true := by kernel_rfl
theorem aw12 : stOk (evCodeX (xtD Tryz.prog Γ) (evX (xtD Tryz.prog Γ) Tryz.prog Γ 400) Tryz.prog Γ 125 (cat (bodyOf Tryz.f13) [0, 1, 1, 1, 1, 1, 1, 1, 1, 1, 1, 1, 1]) 559 [awq54, awq53, awq42, awq41, awq36, awq35, awq22, awq21, awq0, awq1, awq2, awq3, awq4, awq28, awq29, awq38, awq39, awq50, awq52, (21, .lit (.int .i64 1)), (22, .lit (.int .i64 353))] [awq5, awq6, awq7, awq8, awq9, awq10, awq11, awq12, awq13, awq14, awq15, awq16, awq17, awq18, awq19, awq20, awq23, awq24, awq26, awq51, awq30, awq31, awq32, awq33, awq34, awq37, awq40, awq43, awq44, awq45, awq46, awq47, awq48, awq49]) 559 [(22, .lit (.int .i64 353)), (21, .lit (.int .i64 1)), awq52, awq50, awq39, awq38, awq29, awq28, awq4, awq3, awq2, awq1, awq21, awq22, awq35, awq36, awq41, awq42, awq53, awq54, (0, .lit (.bool true))] [awq5, awq6, awq7, awq8, awq9, awq10, awq11, awq12, awq13, awq14, awq15, awq16, awq17, awq18, awq19, awq20, awq23, awq24, awq26, awq51, awq30, awq31, awq32, awq33, awq34, awq37, awq40, awq43, awq44, awq45, awq46, awq47, awq48, awq49] = true := by kernel_rfl
end Go.Proofs.T
end
section
namespace Go.Proofs.T
open Go Go.AM Go.Proofs
set_option maxRecDepth 100000
variable {Γ : List (Nat × List AVal)}
theorem W_stageC {P : Program} {Γ : List (Nat × List AVal)} {nt : Nat} {Q : AQ} {k : Nat} {fr : Fr} {H : Heap} {c : Code} {p : List Nat} {X : Xt} (hX : XtOk P Γ X) (n : Nat) (hc : cat c p = .seq (cat c (0 :: p)) (cat c (1 :: p))) {k1 : Nat} {fr1 : Fr} {H1 : Heap}
    (h : stOk (evCodeX X (evX X P Γ n) P Γ nt (cat c (0 :: p)) k fr H) k1 fr1 H1 = true) (hr : W P Γ nt 0 (cat c (1 :: p)) Q k1 fr1 H1) : W P Γ nt 0 (cat c p) Q k fr H := W_stage hX n hc k1 fr1 H1 h hr
set_option maxHeartbeats 1000000 in
theorem awake35 (hG : GT Γ) : AM.Pure Tryz.prog Γ 13 [] (.lit (.bool true)) := by
  refine Pure_at0 Tryz.func13 rfl 125 rfl (Nat.le_of_ble_eq_true rfl) rfl rfl ?_
  refine W_stageC (xtD_ok hG) 400 rfl (aw0 (Γ := Γ)) ?_
  refine W_stageC (xtD_ok hG) 400 rfl (aw1 (Γ := Γ)) ?_
  refine W_stageC (xtD_ok hG) 400 rfl (aw2 (Γ := Γ)) ?_
  refine W_stageC (xtD_ok hG) 400 rfl (aw3 (Γ := Γ)) ?_
  refine W_stageC (xtD_ok hG) 400 rfl (aw4 (Γ := Γ)) ?_
  refine W_stageC (xtD_ok hG) 400 rfl (aw5 (Γ := Γ)) ?_
  refine W_stageC (xtD_ok hG) 400 rfl (aw6 (Γ := Γ)) ?_
  refine W_stageC (xtD_ok hG) 400 rfl (aw7 (Γ := Γ)) ?_
  refine W_stageC (xtD_ok hG) 400 rfl (aw8 (Γ := Γ)) ?_
  refine W_stageC (xtD_ok hG) 400 rfl (aw9 (Γ := Γ)) ?_
  refine W_stageC (xtD_ok hG) 400 rfl (aw10 (Γ := Γ)) ?_
  refine W_stageC (xtD_ok hG) 400 rfl (aw11 (Γ := Γ)) ?_
  refine W_stageC (xtD_ok hG) 400 rfl (aw12 (Γ := Γ)) ?_
  exact C_ret rfl ⟨_, rfl, VLe.refl _⟩
end Go.Proofs.T
end
section
namespace Go.Proofs.T
open Go Go.AM Go.Proofs Go.Lib
set_option maxRecDepth 20000
variable {Γ : List (Nat × List AVal)}
attribute [local go_sem] strs
theorem deltaLinesW (hG : GT Γ) (hw : AM.Pure Tryz.prog Γ 13 [] (.lit (.bool true))) (d : DE) (hr : DRng d) (hd : d.size < 9223372036854775808) (l : List (List UInt8)) : AM.Pure Tryz.prog Γ 4 [.agg d.cells, strs l] (.lit (.bool true)) := by
  have h := lines35 hG d hr hd l
  refine Pure_at Tryz.func4 rfl 11 rfl (Nat.le_of_ble_eq_true rfl) rfl fun k => ?_
  have kp : Kp [0,1,2,4] (fun i => i - k) := kpI
  refine wl ?_ <;> and_intros <;> first | exact hdT | (apply zM; (repeat intro ht); apply zM; (repeat intro hg); apply zM)
  refine cl [.ret (.lit (.bool true)), .ret (.lit (.bool true))] ?_ <;> and_intros <;> first | exact hdT | (apply zM; (repeat intro ht); apply zM; (repeat intro hg); apply zM)
  · exact h
  refine wl ?_ <;> and_intros <;> first | exact hdT | (apply zM; (repeat intro ht); apply zM; (repeat intro hg); apply zM)
  exact C_ret rfl ⟨_, rfl, VLe.refl _⟩
end Go.Proofs.T
end
section
namespace Go.AM
open Go
section
variable {H : Type} {enc : TypeId × Value → H} {P : Program} {w : World} {base : Nat} {sp : Nat → Bool} {held : Bool} {fuel : Nat} {t : TypeId} {cs : List Value} {x : DataW H × List MemPlace} {G : Nat → Prop}
theorem rd_len {w : World} {G : Nat → Prop} {ρ : Names} {A : Allow} {sz n : Nat} {f : Nat → List AVal} {c : Value} (h : V w G ρ A (.rd sz n f) c) (hn : 0 < n) : ∃ a cap, c = .slice (some a) n cap := by
  cases h with
  | rd0 => omega
  | rd => exact ⟨_, _, rfl⟩
theorem slice_le {e sz n B : Nat} {f : Nat → List AVal} (ht : P.underlying t = some (.slice e)) (h : DataW.trod enc P w base sp held fuel t cs = some x) (d : Dec w G [.rd sz n f] cs) (hx : ∀ elems spare, x.1 = .slice elems spare → elems.length ≤ B) : n ≤ B := by
  obtain ⟨c, hc, hv⟩ := d.2 0 _ rfl
  by_cases hn : 0 < n
  · obtain ⟨a, cap, rfl⟩ := rd_len hv hn
    rcases DataW.trod_slice ht h with ⟨rfl, _⟩ | ⟨a', len, cap', elems, rest, m, _, rfl, rfl, _, _, _, hlen, _⟩
    · simp at hc
    · simp only [List.getElem?_cons_zero, Option.some.injEq, Value.slice.injEq] at hc
      have := hx _ _ rfl
      rw [List.length_map] at this
      omega
  · omega
theorem fld_le {fs : Array Field} {xs : List (DataW H × List MemPlace)} (hW : (DataW.weightsEach P (fs.toList.map (·.type)) (xs.map (·.1))).all (· ≤ reachBytes) = true)
    (hf : ∀ (i : Nat) (f : Field), fs[i]? = some f → DataW.trod enc P w base sp held fuel f.type ((cs.drop f.offset).take (P.cellsOf f.type)) = xs[i]?)
    {i : Nat} {f : Field} {e sz n : Nat} {F : Nat → List AVal} {c : Value} (hi : fs[i]? = some f) (hlt : i < xs.length) (he : P.underlying f.type = some (.slice e)) (hb : 1 ≤ P.bytesOf e) (hc : (cs.drop f.offset).take (P.cellsOf f.type) = [c]) (hd : Dec w G [.rd sz n F] [c]) : n ≤ reachBytes := by
  have h1 := hf i f hi
  rw [hc, List.getElem?_eq_getElem hlt] at h1
  refine slice_le he h1 hd fun elems spare hx => ?_
  have h2 := sized_slice hW (j := i) (t := f.type) (e := e) (elems := elems) (spare := spare) (by rw [List.getElem?_map, Array.getElem?_toList, hi]; rfl) (by rw [List.getElem?_map, List.getElem?_eq_getElem hlt, Option.map_some, hx]) he
  have h3 : (elems.length + spare.length) * 1 ≤ (elems.length + spare.length) * P.bytesOf e := Nat.mul_le_mul_left _ hb
  omega
end
end Go.AM
end
section
namespace Go.Proofs.T
open Go Go.AM Go.Proofs
set_option maxRecDepth 100000
section
variable {H : Type} {enc : TypeId × Value → H} {w : World} {base : Nat} {sp : Nat → Bool} {held : Bool} {fuel : Nat} {cs : List Value} {x : DataW H × List MemPlace} {G : Nat → Prop}
theorem dec_at {vs : List AVal} {v : AVal} {c : Value} {j : Nat} (d : Dec w G vs cs) (hv : vs[j]? = some v) (hc : cs[j]? = some c) : Dec w G [v] [c] := by
  obtain ⟨c', h1, h2⟩ := d.2 j v hv
  rw [hc] at h1; cases h1
  exact .one h2
theorem delta_small (h : DataW.trod enc Tryz.prog w base sp held fuel 36 cs = some x) (d : DE) (hd : Dec w G d.cells cs) (hw : (x.1.weights Tryz.prog 36).all (· ≤ reachBytes) = true) : d.size < 9223372036854775808 := by
  obtain ⟨xs, n, rfl, rfl, hl, hxl, hf⟩ := DataW.trod_struct Tryz.underlying36 h
  have hl6 : cs.length = 6 := hl.trans (by kernel_rfl)
  have hx6 : xs.length = 6 := hxl.trans (by kernel_rfl)
  obtain ⟨c0, c1, c2, c3, c4, c5, rfl⟩ := len6 hl6
  rw [show (DataW.agg (xs.map (·.1)) : DataW H).weights Tryz.prog 36 = _ by rw [DataW.weights, Tryz.underlying36]] at hw
  have k0 : d.n0 ≤ reachBytes := fld_le hw hf (i := 0) rfl (by omega) Tryz.underlying33 (by decide +kernel) rfl (dec_at (j := 0) hd rfl rfl)
  have k1 : d.n1 ≤ reachBytes := fld_le hw hf (i := 1) rfl (by omega) Tryz.underlying33 (by decide +kernel) rfl (dec_at (j := 1) hd rfl rfl)
  have k2 : d.n2 ≤ reachBytes := fld_le hw hf (i := 2) rfl (by omega) Tryz.underlying33 (by decide +kernel) rfl (dec_at (j := 2) hd rfl rfl)
  have k3 : d.n3 ≤ reachBytes := fld_le hw hf (i := 3) rfl (by omega) Tryz.underlying26 (by decide +kernel) rfl (dec_at (j := 3) hd rfl rfl)
  have k4 : d.n4 ≤ reachBytes := fld_le hw hf (i := 4) rfl (by omega) Tryz.underlying27 (by decide +kernel) rfl (dec_at (j := 4) hd rfl rfl)
  have k5 : d.n5 ≤ reachBytes := fld_le hw hf (i := 5) rfl (by omega) Tryz.underlying34 (by decide +kernel) rfl (dec_at (j := 5) hd rfl rfl)
  have e : d.size = d.n0 + d.n1 + d.n2 + d.n3 + d.n4 + d.n5 := rfl
  have er : reachBytes = 140737488351232 := by decide
  rw [er] at k0 k1 k2 k3 k4 k5
  omega
end
end Go.Proofs.T
end
section
namespace Go.AM
open Go Go.RowKit
theorem globIs_of {W : World} {g : Nat} {cs : List Value} {ty : TypeId} {x : Nat × Nat} (h : W.heap[g]? = some (.cells cs.toArray ty x)) : GlobIs W (fun b => b < W.heap.size) g (cs.map .lit) := by
  have hg : g < W.heap.size := (Array.getElem?_eq_some_iff.1 h).1
  refine ⟨.rp (fun j => cs.getD j undef) hg (fun j v hj => ?_) (fun j v hj => ?_), hg, _, _, _, h, by simp⟩
  · simp only [List.getElem?_map, Option.map_eq_some_iff] at hj
    obtain ⟨u, hu, rfl⟩ := hj
    unfold World.cell?
    simp [h, hu, List.getD]
  · simp only [List.getElem?_map, Option.map_eq_some_iff] at hj
    obtain ⟨u, hu, rfl⟩ := hj
    have e : cs.getD j undef = u := by simp [List.getD, hu]
    simp only [e]; exact .lit
theorem globIs_var {P : Program} {W : World} {g : Nat} {name : String} {cs : List Value} (hg : P.globalNamed name = some g) (h : W.var? P name = some cs.toArray) : GlobIs W (fun b => b < W.heap.size) g (cs.map .lit) := by
  unfold World.var? at h
  rw [hg, Option.bind_some] at h
  split at h
  · rename_i c t x hh; cases h; exact globIs_of hh
  · cases h
theorem globIs_int {P : Program} {W : World} {g : Nat} {t : TypeId} {zero : Array Value} {k : IntKind} (h : W.ShapedOpen P) (hg : g < P.globals.size)
    (h0 : ((begin P (fun _ _ => 0) default).world.heap[g]?).bind Obj.row? = some (zero, t)) (hz : zero.size = 1)
    (hb : P.buildable t = true) (hc : P.cellTypes P.depth t = some [t]) (hu : P.underlying t = some (.int k)) : ∃ m, GlobIs W (fun b => b < W.heap.size) g [.lit (.int k m)] := by
  obtain ⟨m, hm⟩ := Go.Proofs.cell_of_shapedOpen_int h hg h0 hz hb hc hu
  obtain ⟨cs, hh, hs, _⟩ := h.1 g zero t hg h0
  have e : cs = [Value.int k m].toArray := by
    unfold World.cell? at hm
    simp only [hh, Option.isSome_none, Bool.false_eq_true, if_false] at hm
    refine Array.ext (by simp [hs, hz]) fun i h1 h2 => ?_
    have : i = 0 := by simp at h2; exact h2
    subst this
    rw [Array.getElem?_eq_getElem h1] at hm
    simpa using hm
  rw [e] at hh
  exact ⟨m, globIs_of hh⟩
theorem row_callG {P : Program} {Γ : List (Nat × List AVal)} {f : FuncId} {vs : List AVal} {b : Bool} {args : Array Value} {W : World} (hΓ : ∀ g cells, look Γ g = some cells → GlobIs W (fun b => b < W.heap.size) g cells) (h : Pure P Γ f vs (.lit (.bool b)))
    (hv : Vs W (fun b => b < W.heap.size) noNames noAllow vs args) : Calls P f args W fun e W' => e = .returned (.bool b) ∧ Below W.heap.size W W' := by
  refine (h 0 noAllow (fun _ h => h.elim) W _ noNames args ⟨fun _ _ => rfl, fun id B A' hid => (by simp [ofHeap, look] at hid), fun i j b s t h => (by cases h), fun b hb => hb, hΓ⟩ hv).mono ?_
  rintro e W' ⟨cv, G', ρ', k', r, H', rfl, ⟨rfl, rfl, rfl⟩, _, _, hvr, hst⟩
  have e1 : cv = .bool b := by cases hvr; rfl
  subst e1
  exact ⟨rfl, hst.os, hst.tape, hst.output, hst.size, fun k hk => hst.keep k hk (fun ⟨_, _, h⟩ => by cases h)⟩
end Go.AM
end
section
namespace Go.AM
open Go Go.ChangeMaps Go.ChangeShapes Go.WideShapes Go.ChangeAt Go.WideMaps Go.WideElems Go.RowKit
theorem row_bothZ {H : Type} {enc : TypeId × Value → H} {a : Assume} {C : Checked} {os : Go.Os} {f : FuncId} {fn : Func} {s : ChangeSpec} {conds : List PathCond} {apart fresh handsOn again : Bool} {X : World → Array Value → Prop}
    (hX : ∀ (w w' : World) (args : Array Value), w.heap = w'.heap → X w args → X w' args)
    (own : ownKnob C.prog.godebug = none) (started : os.Started) (noInit : C.prog.inits.idxOf? f = none) (hfn : C.prog.funcs[f]? = some fn)
    (witness : ∃ (w : World) (tape : Tape) (i : Input), w.os = os ∧ (w.forCall tape i).Shaped C.prog ∧ i.vars = [] ∧ Input.okWide C.prog (w.forCall tape i) .any w.heap.size f i ∧
      ((s.pre enc C.prog fn conds apart (w.forCall tape i).memory i.args ∧ X (w.forCall tape i).memory i.args) ∧ sizedMet enc C.prog fn (OpenSpec.ofChange s) apart (w.forCall tape i).memory i.args) ∧ a.holds C.prog (lone (Frame.enter C.prog f i.args .normal) [] (w.forCall tape i)))
    (contract : ∀ (W : World) (base : Nat) (args : Array Value) (ds gs : List (DataW H)) (before : List MemPlace),
      (∀ (j : Nat) t v, fn.params[j]? = some t → args[j]? = some v → Value.okWide C.prog W .any base t v) →
      DataW.Whole enc C.prog fn.params.toList s.vars apart W args.toList ds gs before →
      (DataW.weightsEach C.prog (fn.params.toList ++ s.plain.varTypes C.prog) (ds ++ gs)).all (· ≤ reachBytes) = true → W.ShapedOpen C.prog → X W args →
      Calls C.prog f args W fun e W' => ∃ v, e = .returned v ∧ s.post enc C.prog fn apart fresh handsOn again W args v W') :
    ReturnsInHanded a C os f .any (fun w args => (s.pre enc C.prog fn conds apart w args ∧ X w args) ∧ sizedMet enc C.prog fn (OpenSpec.ofChange s) apart w args) (s.post enc C.prog fn apart fresh handsOn again) := by
  refine returnsInHanded_of_calls own started noInit witness ?_
  intro w tape i _ hsh _ hok hpre hholds
  obtain ⟨_, _, _, fn', hfn', _, _, _, _, hval⟩ := hok
  have e : fn' = fn := Option.some.inj (hfn'.symm.trans hfn)
  subst e
  obtain ⟨⟨⟨ds, gs, before, hw, hc⟩, hx⟩, hz⟩ := hpre
  have hw' := DataW.Whole.of_heap (w' := w.forCall tape i) (by rfl) hw
  refine (contract (w.forCall tape i) w.heap.size i.args ds gs before hval hw' (hz.weights hw) hsh (hX _ _ _ (by rfl) hx)).mono fun e W' ⟨v, he, hp⟩ => ?_
  subst he
  exact ChangeSpec.post_blind hp
end Go.AM
end
section
namespace Go.Proofs.T
open Go Go.AM Go.Proofs Go.ChangeMaps Go.ChangeShapes Go.WideShapes Go.ChangeAt Go.WideMaps Go.WideElems Go.RowKit Go.Proofs.YteimiejbhhgljaaGreatDoor
set_option maxRecDepth 100000
theorem deltaLines {Γ : List (Nat × List AVal)} (hG : GT Γ) (d : DE) (hr : DRng d) (hd : d.size < 9223372036854775808) (l : List (List UInt8)) : AM.Pure Tryz.prog Γ 4 [.agg d.cells, strs l] (.lit (.bool true)) := deltaLinesW hG (awake35 hG) d hr hd l
theorem rowES (u : TypeId) (h : Tryz.prog.typeName? 3 u = some "*errors.errorString") : u = 353 := by
  have star : "*" ++ "errors.errorString" = "*errors.errorString" := by decide
  exact typeName_ptr_named (nm := "errors.errorString") (by rw [star]; kernel_rfl) (by kernel_rfl) (by decide) u (by rw [star]; exact h)
theorem gt_of {W : World} (hL : laidMetH Tryz.prog Rows.deltaLinesRow.laid W) (hsh : W.ShapedOpen Tryz.prog) : ∃ Γ, GT Γ ∧ ∀ g cells, AM.look Γ g = some cells → GlobIs W (fun b => b < W.heap.size) g cells := by
  have h1 : laidMet Tryz.prog [("internal/strconv.uint64pow10", Lib.tabData .u64 Lib.pow10Tab)] W := laidMetH.filter (fun x => x.1 == "internal/strconv.uint64pow10") hL
  have h2 : laidMet Tryz.prog [("strconv.ErrSyntax", Rows.laid_strconv_ErrSyntax)] W := laidMetH.filter (fun x => x.1 == "strconv.ErrSyntax") hL
  have h3 : laidMet Tryz.prog [("strconv.ErrRange", Rows.laid_strconv_ErrRange)] W := laidMetH.filter (fun x => x.1 == "strconv.ErrRange") hL
  have t1 := Lib.tabIs_of_head (g := 3) (by kernel_rfl) rfl rfl rfl (by kernel_rfl) (by kernel_rfl) h1
  obtain ⟨a2, _, v2, -, -, -⟩ := laid_sentinel (g := 0) h2 (by kernel_rfl) (by kernel_rfl) Tryz.underlying216 rowES Tryz.underlying353 Tryz.underlying355 rfl rfl Tryz.underlying9 (by kernel_rfl) (by kernel_rfl)
  obtain ⟨a3, _, v3, -, -, -⟩ := laid_sentinel (g := 1) h3 (by kernel_rfl) (by kernel_rfl) Tryz.underlying216 rowES Tryz.underlying353 Tryz.underlying355 rfl rfl Tryz.underlying9 (by kernel_rfl) (by kernel_rfl)
  have g1 : GlobIs W (fun b => b < W.heap.size) 3 (Lib.pow10Tab.map fun z => .lit (.int .u64 z)) := by
    have := globIs_var (g := 3) (cs := Lib.pow10Tab.map fun z => Value.int .u64 z) (by kernel_rfl) t1
    rw [List.map_map] at this
    exact this
  have g2 := globIs_var (g := 0) (cs := [Value.iface 353 (.pointer (some a2))]) (by kernel_rfl) v2
  have g3 := globIs_var (g := 1) (cs := [Value.iface 353 (.pointer (some a3))]) (by kernel_rfl) v3
  obtain ⟨m, g4⟩ := globIs_int (g := 2) (t := 3) (k := .i64) (zero := #[.int .i64 0]) hsh (of_decide_eq_true (by kernel_rfl)) (by kernel_rfl) rfl (by kernel_rfl) (by kernel_rfl) Tryz.underlying3
  refine ⟨[(3, Lib.pow10Tab.map fun z => .lit (.int .u64 z)), (0, [.lit (.iface 353 (.pointer (some a2)))]), (1, [.lit (.iface 353 (.pointer (some a3)))]), (2, [.lit (.int .i64 m)])], ⟨rfl, ⟨_, _, rfl⟩, ⟨_, _, rfl⟩, ⟨_, rfl⟩⟩, fun g cells hg => ?_⟩
  simp only [AM.look] at hg
  split at hg
  · rename_i e; subst e; cases hg; exact g1
  split at hg
  · rename_i e; subst e; cases hg; exact g2
  split at hg
  · rename_i e; subst e; cases hg; exact g3
  split at hg
  · rename_i e; subst e; cases hg; exact g4
  · cases hg
theorem agg_of_delta {W : World} {r : Reach} {base : Nat} {v : Value} (h : Value.okWide Tryz.prog W r base 36 v) : ∃ cs, v = .agg cs := by
  unfold Value.okWide at h
  rw [Tryz.underlying36] at h
  obtain ⟨cs, h1, _⟩ := h
  exact ⟨cs, h1⟩
theorem slice_of_texts {W : World} {r : Reach} {base : Nat} {v : Value} (h : Value.okWide Tryz.prog W r base 37 v) : v.cells = #[v] := by
  unfold Value.okWide at h
  rw [Tryz.underlying37] at h
  have h : Cell.okWide Tryz.prog W r base 37 v := h
  cases v with
  | agg cs =>
    exfalso
    unfold Cell.okWide at h
    simp [Cell.ok, Tryz.underlying37] at h
  | _ => rfl
end Go.Proofs.T
end
