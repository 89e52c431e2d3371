import Derived.Test.YtkiadljldlppbaaGreatDoorZAR
import Derived.Test.YtkiadljldlppbaaGreatDoorRows
set_option linter.unusedVariables false
set_option linter.unusedSimpArgs false
section
namespace Go.Proofs.T
open Go Go.AM Go.Proofs
set_option maxRecDepth 20000
variable {Γ : List (Nat × List AVal)}
structure Sm where
  kind : Int
  cpu : Int
  task : Int
  group : Int
  to : Int
  weight : Int
  ticks : Int
  mask : Int
def smc (x : Sm) : List AVal := [.lit (.int .u8 x.kind), .lit (.int .u8 x.cpu), .lit (.int .u8 x.task), .lit (.int .u8 x.group), .lit (.int .u8 x.to), .lit (.int .u16 x.weight), .lit (.int .u32 x.ticks), .lit (.int .u8 x.mask)]
structure SmOk (x : Sm) : Prop where
  k0 : 0 ≤ x.kind ∧ x.kind ≤ 255
  c0 : 0 ≤ x.cpu ∧ x.cpu ≤ 255
  t0 : 0 ≤ x.task ∧ x.task ≤ 255
  g0 : 0 ≤ x.group ∧ x.group ≤ 255
  o0 : 0 ≤ x.to ∧ x.to ≤ 255
  w0 : 0 ≤ x.weight ∧ x.weight ≤ 65535
  i0 : 0 ≤ x.ticks ∧ x.ticks ≤ 4294967295
  m0 : 0 ≤ x.mask ∧ x.mask ≤ 255
def kindL : List Int := [1, 1, 1, 2, 2, 3, 3, 4, 5, 5, 5, 5, 6, 6, 6, 6, 7, 8, 9, 10]
def mskZ (to cpu : Int) : Int := IntKind.u64.wrap ((BitVec.ofInt IntKind.u64.bits (IntKind.u64.wrap (IntKind.u64.wrap (1 * 2 ^ min (1 + to).toNat 64) - 1)) ||| BitVec.ofInt IntKind.u64.bits (IntKind.u64.wrap (1 * 2 ^ min cpu.toNat 64))).toNat : Int)
def opn (x : Sm) : Opn := ⟨kindL.getD (x.kind % 20).toNat 0, x.cpu % 4, 1 + x.task % 12, x.group % 6, 1 + x.weight, x.to % 4, 1 + x.ticks % 16777216, if x.mask % 4 > 0 then mskZ (x.to % 4) (x.cpu % 4) else x.mask⟩
def opL (f : Nat → Sm) (i : Nat) : List (List AVal) := (List.range i).map fun j => opc (opn (f j))
theorem opL_zero (f : Nat → Sm) : opL f 0 = [] := rfl
theorem opL_succ (f : Nat → Sm) (i : Nat) : opL f (i + 1) = opL f i ++ [opc (opn (f i))] := range_snoc
theorem opL_len (f : Nat → Sm) (i : Nat) : (opL f i).length = i := by simp [opL]
attribute [go_sem] opL_len smc
theorem kind_get {q : Nat} (h : q < 20) : (kindL.map fun k => AVal.lit (.int .u8 k))[q]? = some (.lit (.int .u8 (kindL.getD q 0))) := by
  have : q < kindL.length := h
  simp [List.getD, this]
set_option maxHeartbeats 4000000 in
theorem lscript (f : Nat → Sm) (hf : ∀ i, SmOk (f i)) (nl most q : Nat) (hq : q = min nl most) (hn : q ≤ 1000) (hm2 : most ≤ 1000) (hnl : nl ≤ 9223372036854775807) : AM.Pure Tryz.prog Γ 10 [.rd 8 nl (fun i => smc (f i)), .lit (.int .i64 (most : Int))] (.rd 8 q (fun i => opc (opn (f i)))) := by
  refine Pure_at Tryz.func10 rfl 79 rfl (Nat.le_of_ble_eq_true rfl) rfl fun k => ?_
  have e0 : (if (nl : Int) < (most : Int) then (nl : Int) else (most : Int)) = (q : Int) := by split <;> omega
  have e1 : (if (most : Int) < (nl : Int) then (most : Int) else (nl : Int)) = (q : Int) := by split <;> omega
  have kp : Kp [0,1,4,5,7,8,14,15,16,17,53] (fun i => i - k) := kpI
  have uU := zA @e0 @e1
  refine wl ?_; refine zq1 ⟨⟨⟨?_⟩⟩⟩
  refine M_forO (X := Nat) rfl [0,1,4,5,7,8,14,15,16,17,53] (k + 1) (fun i => [(16, .lit (.int .i64 (i : Int))), (5, accV k (opL f i))]) (fun i => accH k 8 (opL f i) []) (fun i => i ≤ q) (fun i => q - i) 0 ?_ (Nat.zero_le _) ?_
  · rw [opL_zero]
    refine rR ?_; apply zN
    exact Mv.wk (wk_low (by omega) (by simp -dsimp -implicitDefEqProofs only [go_sem, e0, e1, List.map_append, eq_self, ↓reduceIte]) (by simp -dsimp -implicitDefEqProofs only [go_sem, e0, e1, List.map_append, eq_self, ↓reduceIte]) (by simp -dsimp -implicitDefEqProofs only [go_sem, e0, e1, List.map_append, eq_self, ↓reduceIte]) (by simp -dsimp -implicitDefEqProofs only [go_sem, e0, e1, List.map_append, eq_self, ↓reduceIte]))
  intro i hi
  obtain ⟨hk0, hc0, ht0, hg0, ho0, hw0, hi0, hm0⟩ := hf i
  obtain ⟨y, ey⟩ : ∃ y, y = f i := ⟨_, rfl⟩
  rw [← ey] at hk0 hc0 ht0 hg0 ho0 hw0 hi0 hm0
  have hqi : (((q - 0 : Nat) : Int)) = (q : Int) := by omega
  have uU := zA @hqi @Nat.sub_zero
  refine rR ?_; apply zN
  by_cases hi2 : i < q
  · have a1 : IntKind.i64.wrap y.cpu = y.cpu := wrap_i64 (by omega) (by omega)
    have a2 : IntKind.i64.wrap y.task = y.task := wrap_i64 (by omega) (by omega)
    have a3 : IntKind.i64.wrap y.group = y.group := wrap_i64 (by omega) (by omega)
    have a4 : IntKind.i64.wrap y.to = y.to := wrap_i64 (by omega) (by omega)
    have a5 : IntKind.i64.wrap y.weight = y.weight := wrap_i64 (by omega) (by omega)
    have a6 : IntKind.u64.wrap y.mask = y.mask := wrap_u64 (by omega) (by omega)
    have b1 : y.cpu.tmod 4 = y.cpu % 4 := Int.tmod_eq_emod_of_nonneg (by omega)
    have b2 : y.task.tmod 12 = y.task % 12 := Int.tmod_eq_emod_of_nonneg (by omega)
    have b3 : y.group.tmod 6 = y.group % 6 := Int.tmod_eq_emod_of_nonneg (by omega)
    have b4 : y.to.tmod 4 = y.to % 4 := Int.tmod_eq_emod_of_nonneg (by omega)
    have b5 : y.ticks.tmod 16777216 = y.ticks % 16777216 := Int.tmod_eq_emod_of_nonneg (by omega)
    have b6 : y.mask.tmod 4 = y.mask % 4 := Int.tmod_eq_emod_of_nonneg (by omega)
    have b7 : y.kind.tmod 20 = y.kind % 20 := Int.tmod_eq_emod_of_nonneg (by omega)
    have c1 : IntKind.i64.wrap (y.cpu % 4) = y.cpu % 4 := wrap_i64 (by omega) (by omega)
    have c2 : IntKind.i64.wrap (y.task % 12) = y.task % 12 := wrap_i64 (by omega) (by omega)
    have c3 : IntKind.i64.wrap (y.group % 6) = y.group % 6 := wrap_i64 (by omega) (by omega)
    have c4 : IntKind.i64.wrap (y.to % 4) = y.to % 4 := wrap_i64 (by omega) (by omega)
    have c5 : IntKind.u32.wrap (y.ticks % 16777216) = y.ticks % 16777216 := wrap_u32 (by omega) (by omega)
    have c6 : IntKind.u8.wrap (y.mask % 4) = y.mask % 4 := wrap_u8 (by omega) (by omega)
    have c7 : IntKind.u8.wrap (y.kind % 20) = y.kind % 20 := wrap_u8 (by omega) (by omega)
    have d1 : IntKind.i64.wrap (1 + y.task % 12) = 1 + y.task % 12 := wrap_i64 (by omega) (by omega)
    have d2 : IntKind.i64.wrap (1 + y.weight) = 1 + y.weight := wrap_i64 (by omega) (by omega)
    have d3 : IntKind.i64.wrap (y.ticks % 16777216) = y.ticks % 16777216 := wrap_i64 (by omega) (by omega)
    have d4 : IntKind.i64.wrap (1 + y.ticks % 16777216) = 1 + y.ticks % 16777216 := wrap_i64 (by omega) (by omega)
    have d5 : IntKind.i64.wrap (1 + y.to % 4) = 1 + y.to % 4 := wrap_i64 (by omega) (by omega)
    obtain ⟨q1, hq1⟩ : ∃ q1 : Nat, y.kind % 20 = (q1 : Int) := ⟨(y.kind % 20).toNat, by omega⟩
    have g1 := kind_get (q := q1) (by omega)
    simp only [kindL, List.map_cons, List.map_nil] at g1
    rw [← Nat.mul_one q1] at g1
    have hq20 : (0 ≤ (q1 : Int) ∧ (q1 : Int) < 20) = True := eq_true (by omega)
    have s1 : (1 + y.to % 4 < 0) = False := eq_false (by omega)
    have s2 : (y.cpu % 4 < 0) = False := eq_false (by omega)
    have ey2 := ey.symm
    have uU := zA @hqi (zA @Nat.sub_zero (zA @ey2 (zA @a1 (zA @a2 (zA @a3 (zA @a4 (zA @a5 (zA @a6 (zA @b1 (zA @b2 (zA @b3 (zA @b4 (zA @b5 (zA @b6 (zA @b7 (zA @c1 (zA @c2 (zA @c3 (zA @c4 (zA @c5 (zA @c6 (zA @c7 (zA @d1 (zA @d2 (zA @d3 (zA @d4 (zA @d5 (zA @hq1 (zA @g1 (zA @hq20 (zA @s1 @s2)))))))))))))))))))))))))))))))
    refine wl ?_; refine zq2 ⟨fun ht ht => ⟨⟨?_⟩⟩⟩ ⟨fun ht ht => ⟨⟨?_⟩⟩⟩
    · refine ⟨i + 1, by omega, by omega, ?_⟩
      have ho : opc (opn (f i)) = [.lit (.int .u8 ([1, 1, 1, 2, 2, 3, 3, 4, 5, 5, 5, 5, 6, 6, 6, 6, 7, 8, 9, 10].getD (q1 * 1) 0)), .lit (.int .i64 (y.cpu % 4)), .lit (.int .i64 (1 + y.task % 12)), .lit (.int .i64 (y.group % 6)), .lit (.int .i64 (1 + y.weight)), .lit (.int .i64 (y.to % 4)), .lit (.int .i64 (1 + y.ticks % 16777216)), .lit (.int .u64 (mskZ (y.to % 4) (y.cpu % 4)))] := by
        rw [← ey]
        simp only [opc, opn, hq1, Int.toNat_natCast, Nat.mul_one, kindL]
        rw [if_pos (by omega)]
        first | rfl | skip
      rw [mskZ] at ho
      rw [opL_succ, ho]
      refine rR ?_; apply zN
      exact Mv.app (k + 4) (k) ⟨by omega, by omega⟩ ⟨by omega, by omega⟩ (wk_low (by omega) (by simp -dsimp -implicitDefEqProofs only [go_sem, hqi, Nat.sub_zero, ey2, a1, a2, a3, a4, a5, a6, b1, b2, b3, b4, b5, b6, b7, c1, c2, c3, c4, c5, c6, c7, d1, d2, d3, d4, d5, hq1, g1, hq20, s1, s2, List.map_append, eq_self, ↓reduceIte]) (by simp -dsimp -implicitDefEqProofs only [go_sem, hqi, Nat.sub_zero, ey2, a1, a2, a3, a4, a5, a6, b1, b2, b3, b4, b5, b6, b7, c1, c2, c3, c4, c5, c6, c7, d1, d2, d3, d4, d5, hq1, g1, hq20, s1, s2, List.map_append, eq_self, ↓reduceIte]) (by simp -dsimp -implicitDefEqProofs only [go_sem, hqi, Nat.sub_zero, ey2, a1, a2, a3, a4, a5, a6, b1, b2, b3, b4, b5, b6, b7, c1, c2, c3, c4, c5, c6, c7, d1, d2, d3, d4, d5, hq1, g1, hq20, s1, s2, List.map_append, eq_self, ↓reduceIte]) (by simp -dsimp -implicitDefEqProofs only [go_sem, hqi, Nat.sub_zero, ey2, a1, a2, a3, a4, a5, a6, b1, b2, b3, b4, b5, b6, b7, c1, c2, c3, c4, c5, c6, c7, d1, d2, d3, d4, d5, hq1, g1, hq20, s1, s2, List.map_append, eq_self, ↓reduceIte]))
    · refine ⟨i + 1, by omega, by omega, ?_⟩
      have ho : opc (opn (f i)) = [.lit (.int .u8 ([1, 1, 1, 2, 2, 3, 3, 4, 5, 5, 5, 5, 6, 6, 6, 6, 7, 8, 9, 10].getD (q1 * 1) 0)), .lit (.int .i64 (y.cpu % 4)), .lit (.int .i64 (1 + y.task % 12)), .lit (.int .i64 (y.group % 6)), .lit (.int .i64 (1 + y.weight)), .lit (.int .i64 (y.to % 4)), .lit (.int .i64 (1 + y.ticks % 16777216)), .lit (.int .u64 y.mask)] := by
        rw [← ey]
        simp only [opc, opn, hq1, Int.toNat_natCast, Nat.mul_one, kindL]
        rw [if_neg (by omega)]
        first | rfl | skip
      rw [opL_succ, ho]
      refine rR ?_; apply zN
      exact Mv.app (k + 4) (k) ⟨by omega, by omega⟩ ⟨by omega, by omega⟩ (wk_low (by omega) (by simp -dsimp -implicitDefEqProofs only [go_sem, hqi, Nat.sub_zero, ey2, a1, a2, a3, a4, a5, a6, b1, b2, b3, b4, b5, b6, b7, c1, c2, c3, c4, c5, c6, c7, d1, d2, d3, d4, d5, hq1, g1, hq20, s1, s2, List.map_append, eq_self, ↓reduceIte]) (by simp -dsimp -implicitDefEqProofs only [go_sem, hqi, Nat.sub_zero, ey2, a1, a2, a3, a4, a5, a6, b1, b2, b3, b4, b5, b6, b7, c1, c2, c3, c4, c5, c6, c7, d1, d2, d3, d4, d5, hq1, g1, hq20, s1, s2, List.map_append, eq_self, ↓reduceIte]) (by simp -dsimp -implicitDefEqProofs only [go_sem, hqi, Nat.sub_zero, ey2, a1, a2, a3, a4, a5, a6, b1, b2, b3, b4, b5, b6, b7, c1, c2, c3, c4, c5, c6, c7, d1, d2, d3, d4, d5, hq1, g1, hq20, s1, s2, List.map_append, eq_self, ↓reduceIte]) (by simp -dsimp -implicitDefEqProofs only [go_sem, hqi, Nat.sub_zero, ey2, a1, a2, a3, a4, a5, a6, b1, b2, b3, b4, b5, b6, b7, c1, c2, c3, c4, c5, c6, c7, d1, d2, d3, d4, d5, hq1, g1, hq20, s1, s2, List.map_append, eq_self, ↓reduceIte]))
  · have hi' : i = q := by omega
    subst hi'
    refine wl ?_; refine zq1 ⟨fun ht => ⟨⟨?_⟩⟩⟩
    refine M_racc rfl (id := k) (s := 8) (l := opL f i) 4 (by simp -dsimp -implicitDefEqProofs only [go_sem, hqi, Nat.sub_zero, List.map_append, eq_self, ↓reduceIte]) (by simp -dsimp -implicitDefEqProofs only [go_sem, hqi, Nat.sub_zero, List.map_append, eq_self, ↓reduceIte]) ?_
    refine ⟨_, rfl, ?_⟩
    rw [rows, opL_len]
    exact VLe.copy' _ _ _
theorem mskZ_ok (a b : Int) : 0 ≤ mskZ a b ∧ mskZ a b < 18446744073709551616 := by
  unfold mskZ
  rw [IntKind.wrap_u64]
  omega
theorem opn_ok {x : Sm} (hx : SmOk x) : OpnOk (opn x) := by
  have hk := hx.k0
  have hm := hx.m0
  obtain ⟨q, hq⟩ : ∃ q : Nat, x.kind % 20 = (q : Int) := ⟨(x.kind % 20).toNat, by omega⟩
  have hq2 : q < 20 := by omega
  have hkd : (opn x).kind = kindL.getD q 0 := by simp only [opn, hq, Int.toNat_natCast]
  have hall : ∀ q, q < 20 → 1 ≤ kindL.getD q 0 ∧ kindL.getD q 0 ≤ 10 := by decide
  have := hall q hq2
  have hmask : 0 ≤ (opn x).mask ∧ (opn x).mask < 18446744073709551616 := by
    show 0 ≤ (if x.mask % 4 > 0 then mskZ (x.to % 4) (x.cpu % 4) else x.mask) ∧ (if x.mask % 4 > 0 then mskZ (x.to % 4) (x.cpu % 4) else x.mask) < 18446744073709551616
    split
    · exact mskZ_ok _ _
    · omega
  exact ⟨by omega, by omega, hmask.1, hmask.2⟩
end Go.Proofs.T
end
section
namespace Go.Proofs.T
open Go Go.AM Go.Proofs Go.ChangeShapes Go.WideShapes Go.ChangeAt Go.WideMaps Go.WideElems Go.RowKit Go.Proofs.YtkiadljldlppbaaGreatDoor
set_option maxRecDepth 100000
theorem ownK : ownKnob Tryz.prog.godebug = none := by kernel_rfl
theorem laidOut : laidOutB Tryz.prog = true := by kernel_rfl
section
variable {H : Type} {enc : TypeId × Value → H} {P : Program} {w : World} {base : Nat} {sp : Nat → Bool} {held : Bool} {fuel : Nat} {t : TypeId} {cs : List Value} {x : DataW H × List MemPlace} {G : Nat → Prop}
theorem dec_field {fs : Array Field} (ht : P.underlying t = some (.struct fs)) (h : DataW.trod enc P w base sp held fuel t cs = some x) :
    cs.length = P.cellsOf t ∧ ∃ n, ∀ (i : Nat) (f : Field), fs[i]? = some f → ∃ y, DataW.trod enc P w base sp held n f.type ((cs.drop f.offset).take (P.cellsOf f.type)) = some y := by
  obtain ⟨xs, n, _, _, h1, h2, h3⟩ := DataW.trod_struct ht h
  refine ⟨h1, n, fun i f hf => ?_⟩
  have hi : i < xs.length := by rw [h2]; exact (Array.getElem?_eq_some_iff.1 hf).1
  exact ⟨xs[i], by rw [h3 i f hf, List.getElem?_eq_getElem hi]⟩
theorem len8 {cs : List Value} (h : cs.length = 8) : ∃ a b c d e f g i, cs = [a, b, c, d, e, f, g, i] := by
  match cs, h with
  | [a, b, c, d, e, f, g, i], _ => exact ⟨a, b, c, d, e, f, g, i, rfl⟩
theorem len13 {cs : List Value} (h : cs.length = 13) : ∃ a b c d0 d1 d2 d3 d4 e0 e1 e2 e3 e4, cs = [a, b, c, d0, d1, d2, d3, d4, e0, e1, e2, e3, e4] := by
  match cs, h with
  | [a, b, c, d0, d1, d2, d3, d4, e0, e1, e2, e3, e4], _ => exact ⟨a, b, c, d0, d1, d2, d3, d4, e0, e1, e2, e3, e4, rfl⟩
theorem u8_rng {n : Int} (h : (Lit.int .u8 n).wf = true) : 0 ≤ n ∧ n ≤ 255 := by
  simp [Lit.wf] at h
  have e1 : IntKind.u8.min = 0 := rfl
  have e2 : IntKind.u8.max = 255 := rfl
  omega
theorem u16_rng {n : Int} (h : (Lit.int .u16 n).wf = true) : 0 ≤ n ∧ n ≤ 65535 := by
  simp [Lit.wf] at h
  have e1 : IntKind.u16.min = 0 := rfl
  have e2 : IntKind.u16.max = 65535 := rfl
  omega
theorem u32_rng' {n : Int} (h : (Lit.int .u32 n).wf = true) : 0 ≤ n ∧ n ≤ 4294967295 := by
  simp [Lit.wf] at h
  have e1 : IntKind.u32.min = 0 := rfl
  have e2 : IntKind.u32.max = 4294967295 := rfl
  omega
theorem dec_arr5 {e : TypeId} {k : IntKind} {c0 c1 c2 c3 c4 : Value} (ht : P.underlying t = some (.array 5 e)) (he : P.underlying e = some (.int k)) (hc : P.cellsOf e = 1) (h : DataW.trod enc P w base sp held fuel t [c0, c1, c2, c3, c4] = some x) :
    ∃ f : Nat → Int, (∀ i, i < 5 → (Lit.int k (f i)).wf = true) ∧ Dec w G [.lit (.int k (f 0)), .lit (.int k (f 1)), .lit (.int k (f 2)), .lit (.int k (f 3)), .lit (.int k (f 4))] [c0, c1, c2, c3, c4] := by
  obtain ⟨xs, m, _, _, _, hl, hx⟩ := DataW.trod_array ht h
  rw [hc] at hx
  have each : ∀ i (hi : i < 5) c, ([c0, c1, c2, c3, c4].drop (i * 1)).take 1 = [c] → ∃ n, Dec w G [.lit (.int k n)] [c] ∧ (Lit.int k n).wf = true := fun i hi c hcx => by
    have h1 := hx i hi
    rw [hcx, List.getElem?_eq_getElem (by omega)] at h1
    exact dec_int he h1
  obtain ⟨a0, d0, w0⟩ := each 0 (by omega) c0 rfl
  obtain ⟨a1, d1, w1⟩ := each 1 (by omega) c1 rfl
  obtain ⟨a2, d2, w2⟩ := each 2 (by omega) c2 rfl
  obtain ⟨a3, d3, w3⟩ := each 3 (by omega) c3 rfl
  obtain ⟨a4, d4, w4⟩ := each 4 (by omega) c4 rfl
  refine ⟨fun i => [a0, a1, a2, a3, a4].getD i 0, fun i hi => ?_, d0.app (d1.app (d2.app (d3.app d4)))⟩
  match i, hi with
  | 0, _ => exact w0
  | 1, _ => exact w1
  | 2, _ => exact w2
  | 3, _ => exact w3
  | 4, _ => exact w4
theorem dec_nums (h : DataW.trod enc Tryz.prog w base sp held fuel 27 cs = some x) : ∃ a : Nums, NumsOk a ∧ Dec w G a.cells cs := by
  obtain ⟨hl, m, hf⟩ := dec_field Tryz.underlying27 h
  have hl13 : cs.length = 13 := hl.trans (by kernel_rfl)
  obtain ⟨c0, c1, c2, p0, p1, p2, p3, p4, w0, w1, w2, w3, w4, rfl⟩ := len13 hl13
  obtain ⟨_, h0⟩ := hf 0 _ rfl
  obtain ⟨_, h1⟩ := hf 1 _ rfl
  obtain ⟨_, h2⟩ := hf 2 _ rfl
  obtain ⟨_, h3⟩ := hf 3 _ rfl
  obtain ⟨_, h4⟩ := hf 4 _ rfl
  obtain ⟨a0, d0, r0⟩ := dec_int (G := G) Tryz.underlying5 h0
  obtain ⟨a1, d1, r1⟩ := dec_int (G := G) Tryz.underlying5 h1
  obtain ⟨a2, d2, r2⟩ := dec_int (G := G) Tryz.underlying22 h2
  obtain ⟨f, r3, d3⟩ := dec_arr5 (G := G) Tryz.underlying23 Tryz.underlying5 (by kernel_rfl) h3
  obtain ⟨g, r4, d4⟩ := dec_arr5 (G := G) Tryz.underlying25 Tryz.underlying24 (by kernel_rfl) h4
  have e0 := u8_rng r0
  have e1 := u8_rng r1
  have e2 := u32_rng' r2
  exact ⟨⟨a0, a1, a2, f, g⟩, ⟨e0.1, e0.2, e1.1, e1.2, e2.1, e2.2, fun i hi => u8_rng (r3 i hi), fun i hi => u16_rng (r4 i hi)⟩, d0.app (d1.app (d2.app (d3.app d4)))⟩
theorem dec_small {n : Nat} {y : DataW H × List MemPlace} (hl : cs.length = 8) (h : DataW.trod enc Tryz.prog w base sp held n 88 cs = some y) : ∃ a : Sm, SmOk a ∧ Dec w G (smc a) cs := by
  obtain ⟨_, m, hf⟩ := dec_field Tryz.underlying88 h
  obtain ⟨c0, c1, c2, c3, c4, c5, c6, c7, rfl⟩ := len8 hl
  obtain ⟨_, h0⟩ := hf 0 _ rfl
  obtain ⟨_, h1⟩ := hf 1 _ rfl
  obtain ⟨_, h2⟩ := hf 2 _ rfl
  obtain ⟨_, h3⟩ := hf 3 _ rfl
  obtain ⟨_, h4⟩ := hf 4 _ rfl
  obtain ⟨_, h5⟩ := hf 5 _ rfl
  obtain ⟨_, h6⟩ := hf 6 _ rfl
  obtain ⟨_, h7⟩ := hf 7 _ rfl
  obtain ⟨a0, d0, r0⟩ := dec_int (G := G) Tryz.underlying5 h0
  obtain ⟨a1, d1, r1⟩ := dec_int (G := G) Tryz.underlying5 h1
  obtain ⟨a2, d2, r2⟩ := dec_int (G := G) Tryz.underlying5 h2
  obtain ⟨a3, d3, r3⟩ := dec_int (G := G) Tryz.underlying5 h3
  obtain ⟨a4, d4, r4⟩ := dec_int (G := G) Tryz.underlying5 h4
  obtain ⟨a5, d5, r5⟩ := dec_int (G := G) Tryz.underlying24 h5
  obtain ⟨a6, d6, r6⟩ := dec_int (G := G) Tryz.underlying22 h6
  obtain ⟨a7, d7, r7⟩ := dec_int (G := G) Tryz.underlying5 h7
  exact ⟨⟨a0, a1, a2, a3, a4, a5, a6, a7⟩, ⟨u8_rng r0, u8_rng r1, u8_rng r2, u8_rng r3, u8_rng r4, u16_rng r5, u32_rng' r6, u8_rng r7⟩, d0.app (d1.app (d2.app (d3.app (d4.app (d5.app (d6.app d7))))))⟩
theorem dec_smalls (hG : ∀ b, b < w.heap.size → G b) (h : DataW.trod enc Tryz.prog w base sp held fuel 28 cs = some x) : ∃ (n : Nat) (f : Nat → Sm), (∀ i, SmOk (f i)) ∧ Dec w G [.rd 8 n (fun i => smc (f i))] cs :=
  dec_slice (G := G) smc SmOk ⟨0, 0, 0, 0, 0, 0, 0, 0⟩ ⟨by simp, by simp, by simp, by simp, by simp, by simp, by simp, by simp⟩ (sz := 8) (by omega) Tryz.underlying28 (by kernel_rfl) hG (fun n cs y hl hy => dec_small hl hy) h
end
section
variable {H : Type} {enc : TypeId × Value → H} {W : World} {d : DataW H} {p : List MemPlace} {r : Reach} {base : Nat} {v : Value}
theorem nums_of (ho : Value.okWide Tryz.prog W r base 27 v) (h : DataW.Trod enc Tryz.prog W 0 (fun _ => true) true 27 v d p) :
    ∃ a : Nums, NumsOk a ∧ V W (fun b => b < W.heap.size) noNames noAllow (.agg a.cells) v := by
  unfold Value.okWide at ho
  rw [Tryz.underlying27] at ho
  obtain ⟨cs, rfl, _⟩ := ho
  obtain ⟨fuel, h⟩ := h
  obtain ⟨a, ha, hd⟩ := dec_nums (G := fun b => b < W.heap.size) h
  exact ⟨a, ha, V.of_dec hd⟩
theorem smalls_of (ho : Value.okWide Tryz.prog W r base 28 v) (h : DataW.Trod enc Tryz.prog W 0 (fun _ => true) true 28 v d p) :
    ∃ (n : Nat) (f : Nat → Sm), n ≤ 9223372036854775807 ∧ (∀ i, SmOk (f i)) ∧ V W (fun b => b < W.heap.size) noNames noAllow (.rd 8 n (fun i => smc (f i))) v := by
  obtain ⟨a, len, cap, rfl⟩ := okWide_slice Tryz.underlying28 ho
  obtain ⟨fuel, h⟩ := h
  obtain ⟨n, f, hf, hd⟩ := dec_smalls (G := fun b => b < W.heap.size) (fun b hb => hb) h
  obtain ⟨c, hc, hv⟩ := hd.2 0 _ rfl
  have e : c = .slice a len cap := by
    simp [Value.cells] at hc
    exact hc.symm
  subst e
  refine ⟨n, f, ?_, hf, hv⟩
  cases hv with
  | rd0 => omega
  | rd _ _ _ h => exact h
end
end Go.Proofs.T
end
section
namespace Go.Proofs.T
open Go Go.AM Go.Proofs
set_option maxRecDepth 20000
attribute [local irreducible] putO del
variable {Γ : List (Nat × List AVal)}
end Go.Proofs.T
end
section
namespace Go.Proofs.T
open Go Go.AM Go.Proofs
set_option maxRecDepth 20000
variable {Γ : List (Nat × List AVal)}
def grR (s : St) : List (List AVal) := (List.range s.ng).map (gf s)
theorem copyConfigO (s : St) (hs : s.Small) (hpos : 0 < s.ng) (k : Nat) :
    Tr Tryz.prog Γ 50 k [.agg s.cfg] [] (fun k1 r1 H1 => k1 = k + 3 ∧ r1 = .agg [.lit (.int .i64 s.cpus), .lit (.int .u64 s.credit), .sl (k + 2) 0 s.ng] ∧ H1 = [(k + 2, ⟨2, true, grR s⟩)]) := by
  have hng := hs.ng
  obtain ⟨RH, eRH⟩ : ∃ x : Heap, x = [(k + 2, ⟨2, true, grR s⟩)] := ⟨_, rfl⟩
  refine Tr.mono (Tr_in (kk := k + 3) (V := .agg [.lit (.int .i64 s.cpus), .lit (.int .u64 s.credit), .sl (k + 2) 0 s.ng]) (RH := RH) (by omega) (by simp [bd, bd1, bd0, ltB]) (by rw [eRH]; exact bdH_cons1 (by simp only [ltB, decide_eq_true_eq]; omega) rfl) ?_) (fun _ _ _ h => ⟨h.1, h.2.1, h.2.2.trans eRH⟩)
  refine Tr_at Tryz.func50 rfl 10 rfl (Nat.le_of_ble_eq_true rfl) ?_
  have hne : s.ng ≠ 0 := by omega
  have eg : (List.range s.ng).map (gf s) = grR s := rfl
  have hone : ((grR s).all fun row => row.all AM.one) = true := rows_one_of _ _ fun _ => rfl
  have kp : Kp [0,1,2,3] (fun i => i - k) := kpI
  have uU := zA @hne (zA @hpos (zA @eg @hone))
  refine wl ?_; refine zq1 ⟨⟨⟨?_⟩⟩⟩
  have uU := zA @hne (zA @hpos (zA @eg @hone)); refine cR ?_; apply zN
  refine ⟨rfl, ?_⟩
  rw [eRH]
  exact rR hdT
def klR' (s : St) : List (List AVal) := (List.range s.nk).map (kf s)
end Go.Proofs.T
end
section
namespace Go.Proofs.T
open Go Go.AM Go.Proofs
set_option maxRecDepth 20000
variable {Γ : List (Nat × List AVal)}
def oR (s : St) (k i : Nat) : List (List AVal) := (List.range i).map fun j => if j < 3 then [.sl (k + (3 + j)) 0 (s.nsp j)] else ssf s j
theorem oR_succ {s : St} {k i : Nat} : oR s k (i + 1) = oR s k i ++ [if i < 3 then [.sl (k + (3 + i)) 0 (s.nsp i)] else ssf s i] := range_snoc
theorem oR_len {s : St} {k i : Nat} : (oR s k i).length = i := by simp [oR]
theorem oR_one {s : St} {k i : Nat} : ((oR s k i).all fun row => row.all AM.one) = true := all_rows fun j => by
  split <;> rfl
theorem oR_bd {s : St} {k i k' : Nat} (h : k + 6 ≤ k') : ((oR s k i).all fun row => row.all (bd0 (ltB k'))) = true := by
  rw [List.all_eq_true]
  intro row hr
  simp only [oR, List.mem_map] at hr
  obtain ⟨j, _, rfl⟩ := hr
  split
  · simp [bd0, ltB]; omega
  · rfl
theorem oR_sw' {s : St} {k i a : Nat} (ha : k + 6 ≤ a) : (oR s k i).map (fun row => row.map (sw0 a (k + 2))) = oR s k i := by
  unfold oR
  rw [List.map_map]
  refine List.map_congr_left fun j hj => ?_
  simp only [Function.comp]
  split
  · simp only [List.map_cons, List.map_nil, sw0, sw]
    rw [if_neg (by omega), if_neg (by omega)]
  · rfl
theorem oR_frz {s : St} {k i id : Nat} {B : Blk} (h : k + 6 ≤ id) : (oR s k i).map (fun row => row.map (frz0 id B)) = oR s k i := by
  unfold oR
  rw [List.map_map]
  refine List.map_congr_left fun j hj => ?_
  simp only [Function.comp]
  split
  · simp only [List.map_cons, List.map_nil, frz0]
    rw [if_neg (by omega)]
  · rfl
theorem oR1 {s : St} {k : Nat} : oR s k 1 = [[.sl (k + 3) 0 (s.nsp 0)]] := rfl
theorem oR2 {s : St} {k : Nat} : oR s k 2 = [[.sl (k + 3) 0 (s.nsp 0)], [.sl (k + 4) 0 (s.nsp 1)]] := rfl
theorem oR3 {s : St} {k : Nat} : oR s k 3 = [[.sl (k + 3) 0 (s.nsp 0)], [.sl (k + 4) 0 (s.nsp 1)], [.sl (k + 5) 0 (s.nsp 2)]] := rfl
def sRs (s : St) (g : Nat) : List (List AVal) := (List.range (s.nsp g)).map (sf s g)
def inn (s : St) (k : Nat) : Nat → Heap
  | 0 => []
  | 1 => [(k + 2, ⟨1, false, oR s k 1⟩), (k + 3, ⟨3, true, sRs s 0⟩)]
  | 2 => [(k + 2, ⟨1, false, oR s k 2⟩), (k + 3, ⟨3, true, sRs s 0⟩), (k + 4, ⟨3, true, sRs s 1⟩)]
  | i + 3 => [(k + 2, ⟨1, false, oR s k (i + 3)⟩), (k + 3, ⟨3, true, sRs s 0⟩), (k + 4, ⟨3, true, sRs s 1⟩), (k + 5, ⟨3, true, sRs s 2⟩)]
def inv4 (k : Nat) : Nat → AVal
  | 0 => .lit (.slice none 0 0)
  | i + 1 => .sl (k + 2) 0 (i + 1)
theorem inn_ge {s : St} {k i : Nat} (h : 3 ≤ i) : inn s k i = [(k + 2, ⟨1, false, oR s k i⟩), (k + 3, ⟨3, true, sRs s 0⟩), (k + 4, ⟨3, true, sRs s 1⟩), (k + 5, ⟨3, true, sRs s 2⟩)] := by
  obtain ⟨j, rfl⟩ : ∃ j, i = j + 3 := ⟨i - 3, by omega⟩
  rfl
theorem inv4_ge {k i : Nat} (h : 3 ≤ i) : inv4 k i = .sl (k + 2) 0 i := by
  obtain ⟨j, rfl⟩ : ∃ j, i = j + 3 := ⟨i - 3, by omega⟩
  rfl
theorem copyIntsG (n : Nat) (f : Nat → List AVal) (hn : n ≤ 1000) (hpos : 0 < n) (hone : (((List.range n).map f).all fun row => row.all AM.one) = true) (k : Nat) :
    Tr Tryz.prog Γ 51 k [.rd 1 n f] [] (fun k1 r1 H1 => k1 = k + 1 ∧ r1 = .sl k 0 n ∧ H1 = [(k, ⟨1, true, (List.range n).map f⟩)]) := by
  obtain ⟨R, eR⟩ : ∃ R, R = (List.range n).map f := ⟨_, rfl⟩
  rw [← eR] at hone ⊢
  obtain ⟨RH, eRH⟩ : ∃ x : Heap, x = [(k, ⟨1, true, R⟩)] := ⟨_, rfl⟩
  refine Tr.mono (Tr_in (kk := k + 1) (V := .sl k 0 n) (RH := RH) (by omega) (by simp [bd, bd1, bd0, ltB]) (by rw [eRH]; exact bdH_cons1 (by simp only [ltB, decide_eq_true_eq]; omega) rfl) ?_) (fun _ _ _ h => ⟨h.1, h.2.1, h.2.2.trans eRH⟩)
  refine Tr_at Tryz.func51 rfl 7 rfl (Nat.le_of_ble_eq_true rfl) ?_
  have hne : n ≠ 0 := by omega
  have eg := eR.symm
  have kp : Kp [0,2,3] (fun i => i - k) := kpI
  have uU := zA @hne (zA @hpos (zA @eg @hone))
  refine wl ?_; refine zq1 ⟨⟨⟨?_⟩⟩⟩
  have uU := zA @hne (zA @hpos (zA @eg @hone)); refine cR ?_; apply zN
  refine ⟨rfl, ?_⟩
  rw [eRH]
  exact rR hdT
def tkR' (s : St) : List (List AVal) := (List.range s.nt).map (tf s)
def ulR' (s : St) : List (List AVal) := (List.range s.nu).map (uf s)
theorem Mv.rowN {kb k : Nat} {fr : Fr} {H : Heap} (id : Nat) {s : Nat} {l : List (List AVal)} {r : List AVal} (r' : List AVal) (hH : AM.look H id = some ⟨s, false, l ++ [r]⟩) (hr : VLes r r') :
    Mv kb k fr H k fr ((id, ⟨s, false, l ++ [r']⟩) :: del H id) := fun hk => Mv.wk ⟨hk, fun t v h => ⟨v, h, VLe.refl v⟩, fun i B hB => by
  rw [look_cons_del] at hB
  split at hB
  · rename_i he
    subst he
    cases hB
    obtain ⟨h1, h2⟩ := hr.spec
    refine ⟨_, hH, rfl, fun q row' hq => ?_, fun h => by cases h⟩
    rw [List.getElem?_append] at hq
    split at hq
    · rename_i hlt
      exact ⟨row', by rw [List.getElem?_append_left hlt]; exact hq, rfl, fun c u v hu hv => by rw [hu] at hv; cases hv; exact VLe.refl _⟩
    · rename_i hge
      have hq0 : q - l.length = 0 := by
        have := (List.getElem?_eq_some_iff.1 hq).1
        simp at this; exact this
      rw [hq0] at hq
      cases hq
      exact ⟨r, by rw [List.getElem?_append_right (by omega), hq0]; rfl, h1, fun c u v hu hv => h2 c u v hu hv⟩
  · exact ⟨B, hB, BLe.refl B⟩, .inl rfl⟩ hk
set_option maxHeartbeats 8000000 in
theorem copyStateA (s : St) (hs : s.Small) (h3 : 3 ≤ s.ns) (hp : ∀ g, g < s.ns → 0 < s.nsp g) (hg0 : 0 < s.ng) (hk0 : 0 < s.nk) (hu0 : 0 < s.nu) (ht0 : 0 < s.nt) (k : Nat) :
    Tr Tryz.prog Γ 21 k [.agg s.cells] [] (fun k1 r1 H1 => k1 = k + 12 ∧ r1 = .agg [.lit (.int .i64 s.cpus), .lit (.int .u64 s.credit), .sl (k + 8) 0 s.ng, .sl (k + 9) 0 s.nk, .sl (k + 10) 0 s.nu, .sl (k + 11) 0 s.nt, .sl (k + 2) 0 s.ns] ∧
      H1 = [(k + 11, ⟨8, true, tkR' s⟩), (k + 10, ⟨1, true, ulR' s⟩), (k + 9, ⟨1, true, klR' s⟩), (k + 8, ⟨2, true, grR s⟩), (k + 5, ⟨3, true, sRs s 2⟩), (k + 4, ⟨3, true, sRs s 1⟩), (k + 3, ⟨3, true, sRs s 0⟩), (k + 2, ⟨1, false, oR s k s.ns⟩)]) := by
  obtain ⟨hng, hnk, hnu, hnt, hns, hnsp⟩ := id hs
  obtain ⟨V, eV⟩ : ∃ v : AVal, v = .agg [.lit (.int .i64 s.cpus), .lit (.int .u64 s.credit), .sl (k + 8) 0 s.ng, .sl (k + 9) 0 s.nk, .sl (k + 10) 0 s.nu, .sl (k + 11) 0 s.nt, .sl (k + 2) 0 s.ns] := ⟨_, rfl⟩
  obtain ⟨RH, eRH⟩ : ∃ x : Heap, x = [(k + 11, ⟨8, true, tkR' s⟩), (k + 10, ⟨1, true, ulR' s⟩), (k + 9, ⟨1, true, klR' s⟩), (k + 8, ⟨2, true, grR s⟩), (k + 5, ⟨3, true, sRs s 2⟩), (k + 4, ⟨3, true, sRs s 1⟩), (k + 3, ⟨3, true, sRs s 0⟩), (k + 2, ⟨1, false, oR s k s.ns⟩)] := ⟨_, rfl⟩
  refine Tr.mono (Tr_in (kk := k + 12) (V := V) (RH := RH) (by omega) (by rw [eV]; simp [bd, bd1, bd0, ltB]) ?_ ?_) (fun _ _ _ h => ⟨h.1, h.2.1.trans eV, h.2.2.trans eRH⟩)
  · have := oR_bd (s := s) (k := k) (i := s.ns) (k' := k + 12) (by omega)
    rw [eRH]
    simp only [bdH, List.all_cons, List.all_nil, this, ltB, Bool.true_or, Bool.false_or, Bool.and_true, Bool.and_eq_true, decide_eq_true_eq]
    repeat' (first | (refine And.intro ?_ ?_) | omega | trivial)
  refine Tr_at Tryz.func21 rfl 44 rfl (Nat.le_of_ble_eq_true rfl) ?_
  have kp : Kp [0,1,2,3,4,5,6,11] (fun i => i - k) := kpI
  refine wl ?_; refine zq1 ⟨⟨⟨?_⟩⟩⟩
  refine M_forO (X := Nat) rfl [0,1,2,3,4,5,6,11] (k + 6) (fun i => [(5, .lit (.int .i64 (i : Int))), (4, inv4 k i)]) (fun i => (k + 1, ⟨7, true, [zst]⟩) :: (k, ⟨7, true, [s.cells]⟩) :: inn s k i) (fun i => i ≤ s.ns) (fun i => s.ns - i) 0 ?_ (Nat.zero_le _) ?_
  · rw [show inv4 k 0 = .lit (.slice none 0 0) from rfl, show inn s k 0 = [] from rfl]
    refine Mv.trans (Mv.raise (k2 := k + 6) (by omega)) ?_
    refine rR ?_; apply zN
    exact wkF
  intro i hi
  by_cases hi2 : i < s.ns
  · have hpos : 0 < s.nsp i := hp i hi2
    have hle : s.nsp i ≤ 1000 := hnsp i hi2
    have hz : ¬ s.nsp i = 0 := by omega
    have er : (List.range (s.nsp i)).map (sf s i) = sRs s i := rfl
    have hso : ((sRs s i).all fun row => row.all AM.one) = true := rows_one_of _ _ fun _ => rfl
    have hsl : (sRs s i).length = s.nsp i := by simp [sRs]
    have hoo := oR_one (s := s) (k := k) (i := i)
    have hbd := oR_bd (s := s) (k := k) (i := i) (k' := k + 6) (Nat.le_refl _)
    by_cases hi3 : 3 ≤ i
    · rw [inn_ge hi3, inv4_ge hi3]
      have hi0 : ¬ i = 0 := by omega
      have uU := zA @hz (zA @hpos (zA @er (zA @hso (zA @oR_len (zA @hoo @hi0)))))
      refine rR ?_; apply zN
      refine wl ?_; refine zq1 ⟨fun ht => ⟨⟨?_⟩⟩⟩
      refine ⟨i + 1, by omega, by omega, ?_⟩
      rw [inn_ge (show 3 ≤ i + 1 by omega), inv4_ge (show 3 ≤ i + 1 by omega), oR_succ, if_neg (by omega)]
      have hfz : ∀ (B : Blk), (oR s k i).map (fun row => row.map (frz0 (k + 6) B)) = oR s k i := fun B => oR_frz (Nat.le_refl _)
      have hsw : (oR s k i).map (fun row => row.map (sw0 (k + 8) (k + 2))) = oR s k i := oR_sw' (by omega)
      refine Mv.trans (Mv.freeze (k + 6) (by simp -dsimp -implicitDefEqProofs only [go_sem, hfz, hsl, eq_self, ↓reduceIte]; rfl) rfl) ?_
      simp -dsimp -implicitDefEqProofs only [frzF, frz_app, go_sem, hfz, hsl, eq_self, ↓reduceIte]
      refine Mv.trans (Mv.rowN (k + 8) (ssf s i) (by simp -dsimp -implicitDefEqProofs only [go_sem, hfz, hsl, List.map_append, Flt.row, eq_self, ↓reduceIte]; rfl) (.cons (VLe.copy' _ _ _) .nil)) ?_
      exact Mv.app (k + 8) (k + 2) ⟨by omega, by omega⟩ ⟨by omega, by omega⟩ (wk_low (by omega) (by simp -dsimp -implicitDefEqProofs only [go_sem, hsw, hbd, hz, List.map_append, Flt.row, eq_self, ↓reduceIte]) (by simp -dsimp -implicitDefEqProofs only [go_sem, hsw, hbd, hz, List.map_append, Flt.row, eq_self, ↓reduceIte]) (by simp -dsimp -implicitDefEqProofs only [go_sem, hsw, hbd, hz, List.map_append, Flt.row, eq_self, ↓reduceIte]) (by simp -dsimp -implicitDefEqProofs only [go_sem, hsw, hbd, hz, List.map_append, Flt.row, eq_self, ↓reduceIte]))
    · obtain rfl | rfl | rfl : i = 0 ∨ i = 1 ∨ i = 2 := by omega
      · rw [show inv4 k 0 = .lit (.slice none 0 0) from rfl, show inn s k 0 = [] from rfl]
        have uU := zA @hz (zA @hpos (zA @er (zA @hso (zA @oR_len (zA @oR1 (zA @oR2 @oR3))))))
        refine rR ?_; apply zN
        refine wl ?_; refine zq1 ⟨fun ht => ⟨⟨?_⟩⟩⟩
        refine ⟨0 + 1, by omega, by omega, ?_⟩
        rw [show inv4 k (0 + 1) = .sl (k + 2) 0 1 from rfl, show inn s k (0 + 1) = [(k + 2, ⟨1, false, oR s k 1⟩), (k + 3, ⟨3, true, sRs s 0⟩)] from rfl]
        refine Mv.trans (Mv.swap (k + 6) (k + 3) ⟨by omega, by omega⟩ ⟨by omega, by omega⟩) ?_
        refine rR ?_; apply zN
        exact Mv.app (k + 8) (k + 2) ⟨by omega, by omega⟩ ⟨by omega, by omega⟩ (wk_low (by omega) (by simp -dsimp -implicitDefEqProofs only [go_sem, hz, hpos, er, hso, oR_len, oR1, oR2, oR3, List.map_append, Flt.row, eq_self, ↓reduceIte]) (by simp -dsimp -implicitDefEqProofs only [go_sem, hz, hpos, er, hso, oR_len, oR1, oR2, oR3, List.map_append, Flt.row, eq_self, ↓reduceIte]) (by simp -dsimp -implicitDefEqProofs only [go_sem, hz, hpos, er, hso, oR_len, oR1, oR2, oR3, List.map_append, Flt.row, eq_self, ↓reduceIte]) (by simp -dsimp -implicitDefEqProofs only [go_sem, hz, hpos, er, hso, oR_len, oR1, oR2, oR3, List.map_append, Flt.row, eq_self, ↓reduceIte]))
      · rw [show inv4 k 1 = .sl (k + 2) 0 1 from rfl, show inn s k 1 = [(k + 2, ⟨1, false, oR s k 1⟩), (k + 3, ⟨3, true, sRs s 0⟩)] from rfl]
        have uU := zA @hz (zA @hpos (zA @er (zA @hso (zA @oR_len (zA @oR1 (zA @oR2 @oR3))))))
        refine rR ?_; apply zN
        refine wl ?_; refine zq1 ⟨fun ht => ⟨⟨?_⟩⟩⟩
        refine ⟨1 + 1, by omega, by omega, ?_⟩
        rw [show inv4 k (1 + 1) = .sl (k + 2) 0 2 from rfl, show inn s k (1 + 1) = [(k + 2, ⟨1, false, oR s k 2⟩), (k + 3, ⟨3, true, sRs s 0⟩), (k + 4, ⟨3, true, sRs s 1⟩)] from rfl]
        refine Mv.trans (Mv.swap (k + 6) (k + 4) ⟨by omega, by omega⟩ ⟨by omega, by omega⟩) ?_
        refine rR ?_; apply zN
        exact Mv.app (k + 8) (k + 2) ⟨by omega, by omega⟩ ⟨by omega, by omega⟩ (wk_low (by omega) (by simp -dsimp -implicitDefEqProofs only [go_sem, hz, hpos, er, hso, oR_len, oR1, oR2, oR3, List.map_append, Flt.row, eq_self, ↓reduceIte]) (by simp -dsimp -implicitDefEqProofs only [go_sem, hz, hpos, er, hso, oR_len, oR1, oR2, oR3, List.map_append, Flt.row, eq_self, ↓reduceIte]) (by simp -dsimp -implicitDefEqProofs only [go_sem, hz, hpos, er, hso, oR_len, oR1, oR2, oR3, List.map_append, Flt.row, eq_self, ↓reduceIte]) (by simp -dsimp -implicitDefEqProofs only [go_sem, hz, hpos, er, hso, oR_len, oR1, oR2, oR3, List.map_append, Flt.row, eq_self, ↓reduceIte]))
      · rw [show inv4 k 2 = .sl (k + 2) 0 2 from rfl, show inn s k 2 = [(k + 2, ⟨1, false, oR s k 2⟩), (k + 3, ⟨3, true, sRs s 0⟩), (k + 4, ⟨3, true, sRs s 1⟩)] from rfl]
        have uU := zA @hz (zA @hpos (zA @er (zA @hso (zA @oR_len (zA @oR1 (zA @oR2 @oR3))))))
        refine rR ?_; apply zN
        refine wl ?_; refine zq1 ⟨fun ht => ⟨⟨?_⟩⟩⟩
        refine ⟨2 + 1, by omega, by omega, ?_⟩
        rw [show inv4 k (2 + 1) = .sl (k + 2) 0 3 from rfl, show inn s k (2 + 1) = [(k + 2, ⟨1, false, oR s k 3⟩), (k + 3, ⟨3, true, sRs s 0⟩), (k + 4, ⟨3, true, sRs s 1⟩), (k + 5, ⟨3, true, sRs s 2⟩)] from rfl]
        refine Mv.trans (Mv.swap (k + 6) (k + 5) ⟨by omega, by omega⟩ ⟨by omega, by omega⟩) ?_
        refine rR ?_; apply zN
        exact Mv.app (k + 8) (k + 2) ⟨by omega, by omega⟩ ⟨by omega, by omega⟩ (wk_low (by omega) (by simp -dsimp -implicitDefEqProofs only [go_sem, hz, hpos, er, hso, oR_len, oR1, oR2, oR3, List.map_append, Flt.row, eq_self, ↓reduceIte]) (by simp -dsimp -implicitDefEqProofs only [go_sem, hz, hpos, er, hso, oR_len, oR1, oR2, oR3, List.map_append, Flt.row, eq_self, ↓reduceIte]) (by simp -dsimp -implicitDefEqProofs only [go_sem, hz, hpos, er, hso, oR_len, oR1, oR2, oR3, List.map_append, Flt.row, eq_self, ↓reduceIte]) (by simp -dsimp -implicitDefEqProofs only [go_sem, hz, hpos, er, hso, oR_len, oR1, oR2, oR3, List.map_append, Flt.row, eq_self, ↓reduceIte]))
  · have hi' : i = s.ns := by omega
    subst hi'
    rw [inn_ge h3, inv4_ge h3]
    refine rR ?_; apply zN
    refine wl ?_; refine zq1 ⟨fun ht => ⟨⟨?_⟩⟩⟩
    have hcc := copyConfigO s hs hg0 (k + 6) (Γ := Γ)
    have hck := copyIntsG s.nk (kf s) hnk hk0 (rows_one_of _ _ fun _ => rfl) (k + 9) (Γ := Γ)
    have hcu := copyIntsG s.nu (uf s) hnu hu0 (rows_one_of _ _ fun _ => rfl) (k + 10) (Γ := Γ)
    have et : (List.range s.nt).map (tf s) = tkR' s := rfl
    have hto : ((tkR' s).all fun row => row.all AM.one) = true := rows_one_of _ _ fun _ => rfl
    have hne : ¬ s.nt = 0 := by omega
    have hobd := fun k' (h : k + 6 ≤ k') => oR_bd (s := s) (k := k) (i := s.ns) (k' := k') h
    have uU := zA @hne (zA @ht0 (zA @et @hto))
    refine dl [.gen (.agg [.lit (.int .i64 s.cpus), .lit (.int .u64 s.credit), .sl (k + 8) 0 s.ng]) (k + 9) [] [(k + 8, ⟨2, true, grR s⟩)], .gen (.sl (k + 9) 0 s.nk) (k + 10) [] [(k + 9, ⟨1, true, klR' s⟩)], .gen (.sl (k + 10) 0 s.nu) (k + 11) [] [(k + 10, ⟨1, true, ulR' s⟩)]] ?_; refine zq4 ⟨⟨⟨?_⟩⟩⟩ ⟨⟨⟨?_⟩⟩⟩ ⟨⟨⟨?_⟩⟩⟩ ⟨⟨⟨?_⟩⟩⟩
    all_goals (try (first | exact hcc | exact hck | exact hcu))
    refine wl ?_; refine zq1 ⟨⟨⟨?_⟩⟩⟩
    have uU := zA @hne (zA @ht0 (zA @et @hto)); refine cR ?_; apply zN
    refine ⟨eV.symm, ?_⟩
    rw [eRH]
    exact rR hdT
end Go.Proofs.T
end
section
namespace Go.Proofs.T
open Go Go.AM Go.Proofs
set_option maxRecDepth 20000
variable {Γ : List (Nat × List AVal)}
structure Full (s : St) : Prop where
  nt : 3 ≤ s.nt
  ng : 3 ≤ s.ng
  ns : 3 ≤ s.ns
  p0 : 2 ≤ s.nsp 0
  p1 : 2 ≤ s.nsp 1
  p2 : 2 ≤ s.nsp 2
  nk : 2 ≤ s.nk
  nu : 2 ≤ s.nu
def tkS (s : St) (i : Nat) (f : Tk → Tk) : St := { s with tsk := fun j => if j = i then f (s.tsk i) else s.tsk j }
def spS (s : St) (g c : Nat) (f : Sp → Sp) : St := { s with sp := fun a b => if a = g ∧ b = c then f (s.sp g c) else s.sp a b }
def clS (s : St) (i : Nat) (v : Int) : St := { s with clk := fun j => if j = i then v else s.clk j }
def cuS (s : St) (i : Nat) (v : Int) : St := { s with cur := fun j => if j = i then v else s.cur j }
def spoilS (s : St) : Nat → St
  | 0 => { s with cpus := 0 }
  | 1 => { s with cpus := 3 }
  | 2 => { s with ng := 2 }
  | 3 => { s with wt := fun g => if g = 2 then 0 else s.wt g }
  | 4 => { s with par := fun g => if g = 2 then 0 else s.par g }
  | 5 => { s with credit := IntKind.u64.wrap (s.credit + 1) }
  | 6 => { clS s s.nk 1 with nk := s.nk + 1 }
  | 7 => { cuS s s.nu 0 with nu := s.nu + 1 }
  | 8 => { s with ns := 2 }
  | 9 => { s with nsp := fun g => if g = 1 then 1 else s.nsp g }
  | 10 => { spS s 2 (s.nsp 2) (fun _ => ⟨0, 0, 0⟩) with nsp := fun g => if g = 2 then s.nsp 2 + 1 else s.nsp g }
  | 11 => clS s 0 (-1)
  | 12 => clS s 1 281474976710657
  | 13 => clS s 1 (IntKind.i64.wrap (s.clk 1 + 1))
  | 14 => cuS s 0 8
  | 15 => cuS s 1 9
  | 16 => cuS s 1 8
  | 17 => cuS s 0 (-3)
  | 18 => { s with tsk := fun j => if j = 0 then { s.tsk 0 with id := (s.tsk 1).id } else if j = 1 then { s.tsk 1 with id := (s.tsk 0).id } else s.tsk j }
  | 19 => tkS s 1 fun t => { t with id := (s.tsk 0).id }
  | 20 => tkS s 0 fun t => { t with id := 0 }
  | 21 => tkS s 2 fun t => { t with id := 65536 }
  | 22 => tkS s 0 fun t => { t with group := 3 }
  | 23 => tkS s 1 fun t => { t with group := -1 }
  | 24 => tkS s 0 fun t => { t with cpu := 2 }
  | 25 => tkS s 1 fun t => { t with cpu := -1 }
  | 26 => tkS s 0 fun t => { t with mask := 7 }
  | 27 => tkS s 0 fun t => { t with mask := 2 }
  | 28 => tkS s 1 fun t => { t with mask := 0 }
  | 29 => tkS s 0 fun t => { t with r := 5 }
  | 30 => tkS s 1 fun t => { t with weight := 0 }
  | 31 => tkS s 0 fun t => { t with weight := 65537 }
  | 32 => spS s 2 1 fun x => { x with r := 9 }
  | 33 => spS s 0 1 fun x => { x with v := 1 }
  | 34 => spS s 0 0 fun x => { x with r := 1 }
  | 35 => spS s 2 1 fun x => { x with floor := 5 }
  | 36 => spS s 0 0 fun x => { x with floor := 3 }
  | 37 => spS s 1 1 fun x => { x with floor := 1 }
  | 38 => tkS s 0 fun t => { t with v := 18446744073709551615, r := 1 }
  | _ => clS (spS s 1 0 fun x => { x with floor := 9 }) 0 281474976710656
theorem oR_cons {s : St} {k n : Nat} : oR s (k + 2) (n + 3) = [.sl (k + 5) 0 (s.nsp 0)] :: [.sl (k + 6) 0 (s.nsp 1)] :: [.sl (k + 7) 0 (s.nsp 2)] :: (List.range (n + 3 - 3)).map fun j => ssf s (3 + j) := by
  rw [show n + 3 - 3 = n by omega]
  induction n with
  | zero => rfl
  | succ n ih =>
    rw [show n + 1 + 3 = (n + 3) + 1 by omega, oR_succ, ih, range_snoc, if_neg (by omega), Nat.add_comm n 3]
    rfl
theorem getD_setL {R : List (List AVal)} {i q : Nat} {r : List AVal} : (R.set i r).getD q [] = if i = q ∧ i < R.length then r else R.getD q [] := by
  rw [List.getD_eq_getElem?_getD, List.getD_eq_getElem?_getD, List.getElem?_set]
  by_cases e : i = q
  · subst e
    by_cases h : i < R.length
    · rw [if_pos rfl, if_pos h, if_pos ⟨rfl, h⟩]; rfl
    · rw [if_pos rfl, if_neg h, if_neg (fun x => h x.2), List.getElem?_eq_none (by omega)]
  · rw [if_neg e, if_neg (fun x => e x.1)]
theorem getD_appL {R : List (List AVal)} {q : Nat} {r : List AVal} : (R ++ [r]).getD q [] = if q = R.length then r else R.getD q [] := by
  rw [List.getD_eq_getElem?_getD, List.getD_eq_getElem?_getD, List.getElem?_append]
  by_cases e : q = R.length
  · subst e
    rw [if_neg (Nat.lt_irrefl _), if_pos rfl, Nat.sub_self]; rfl
  · rw [if_neg e]
    split
    · rfl
    · rw [List.getElem?_eq_none (show R.length ≤ q by omega), List.getElem?_eq_none (by simp; omega)]
theorem rngD {n q : Nat} {f : Nat → List AVal} : ((List.range n).map f).getD q [] = if q < n then f q else [] := by
  by_cases h : q < n <;> simp [List.getD_eq_getElem?_getD, h]
theorem vR {s n : Nat} {R : List (List AVal)} {f : Nat → List AVal} (h : ∀ q, q < n → R.getD q [] = f q) : VLe (.rd s n (fun q => R.getD q [])) (.rd s n f) := VLe.rd h
theorem VLe.rds {s n : Nat} {f g : Nat → List AVal} (h : ∀ i, i < n → VLes (f i) (g i)) : VLe (.rd s n f) (.rd s n g) := fun w G ρ A cv hv => by
  cases hv with
  | rd0 => exact .rd0
  | rd gg a1 a2 a3 a4 a5 a6 =>
    have key : ∀ i j v, i < n → (g i)[j]? = some v → ∃ u, (f i)[j]? = some u ∧ VLe u v := fun i j v hi hj => by
      obtain ⟨h1, h2⟩ := (h i hi).spec
      have hlt : j < (f i).length := by have := (List.getElem?_eq_some_iff.1 hj).1; omega
      exact ⟨_, List.getElem?_eq_getElem hlt, h2 j _ v (List.getElem?_eq_getElem hlt) hj⟩
    refine .rd gg a1 a2 a3 (fun i hi => by rw [← ((h i hi).spec).1]; exact a4 i hi) (fun i j v hi hj => ?_) (fun i j v hi hj => ?_)
    · obtain ⟨u, hu, _⟩ := key i j v hi hj; exact a5 i j u hi hu
    · obtain ⟨u, hu, hle⟩ := key i j v hi hj; exact hle _ _ _ _ _ (a6 i j u hi hu)
theorem vS_set {s s' : St} {g i : Nat} {R : List (List AVal)} {x : Sp} (eR : R = sRs s g) (hi : i < s.nsp g) (hn : s'.nsp g = s.nsp g) (h : ∀ c, s'.sp g c = if c = i then x else s.sp g c) :
    VLe (.rd 3 (s.nsp g) (fun q => (R.set i [.lit (.int .u64 x.v), .lit (.int .u32 x.r), .lit (.int .u64 x.floor)]).getD q [])) (.rd 3 (s'.nsp g) (sf s' g)) := by
  rw [hn]
  refine vR fun q hq => ?_
  rw [getD_setL, eR, sRs, rngD, List.length_map, List.length_range, if_pos hq]
  simp only [sf, h]
  by_cases e : q = i
  · rw [if_pos ⟨e.symm, hi⟩, if_pos e]
  · rw [if_neg (fun x => e x.1.symm), if_neg e]
theorem vS_app {s s' : St} {g : Nat} {R : List (List AVal)} {x : Sp} (eR : R = sRs s g) (hn : s'.nsp g = s.nsp g + 1) (h : ∀ c, s'.sp g c = if c = s.nsp g then x else s.sp g c) :
    VLe (.rd 3 (s.nsp g + 1) (fun q => (R ++ [[AVal.lit (.int .u64 x.v), AVal.lit (.int .u32 x.r), AVal.lit (.int .u64 x.floor)]]).getD q [])) (.rd 3 (s'.nsp g) (sf s' g)) := by
  rw [hn]
  refine vR fun q hq => ?_
  rw [getD_appL, eR, sRs, rngD, List.length_map, List.length_range]
  simp only [sf, h]
  by_cases e : q = s.nsp g
  · rw [if_pos e, if_pos e]
  · rw [if_neg e, if_neg e, if_pos (by omega)]
theorem vT_two {s s' : St} {R : List (List AVal)} {x y : Tk} (eR : R = tkR' s) (h2 : 2 < s.nt) (hn : s'.nt = s.nt) (h : ∀ j, s'.tsk j = if j = 0 then x else if j = 1 then y else s.tsk j) :
    VLe (.rd 8 s.nt (fun q => ((R.set 0 (tkc x)).set 1 (tkc y)).getD q [])) (.rd 8 s'.nt (tf s')) := by
  rw [hn]
  refine vR fun q hq => ?_
  rw [getD_setL, getD_setL, List.length_set, eR, tkR', rngD, List.length_map, List.length_range, if_pos hq]
  simp only [tf, h, tkc]
  by_cases e : q = 0
  · subst e
    rw [if_neg (fun x => by omega), if_pos ⟨rfl, by omega⟩, if_pos rfl]
  · by_cases e1 : q = 1
    · subst e1
      rw [if_pos ⟨rfl, by omega⟩, if_neg e, if_pos rfl]
    · rw [if_neg (fun x => e1 x.1.symm), if_neg (fun x => e x.1.symm), if_neg e, if_neg e1]
theorem spotsV {s' : St} {OT R0 R1 R2 : List (List AVal)} {n n0 n1 n2 : Nat} (hn : n = s'.ns) (h0 : VLe (.rd 3 n0 (fun q => R0.getD q [])) (.rd 3 (s'.nsp 0) (sf s' 0))) (h1 : VLe (.rd 3 n1 (fun q => R1.getD q [])) (.rd 3 (s'.nsp 1) (sf s' 1)))
    (h2 : 2 < n → VLe (.rd 3 n2 (fun q => R2.getD q [])) (.rd 3 (s'.nsp 2) (sf s' 2))) (hT : ∀ q, q + 3 < n → OT.getD q [] = ssf s' (q + 3)) :
    VLe (.rd 1 n (fun q => ([.rd 3 n0 (fun q => R0.getD q [])] :: [.rd 3 n1 (fun q => R1.getD q [])] :: [.rd 3 n2 (fun q => R2.getD q [])] :: OT).getD q [])) (.rd 1 s'.ns (ssf s')) := by
  subst hn
  refine VLe.rds fun q hq => ?_
  match q, hq with
  | 0, _ => exact .cons h0 .nil
  | 1, _ => exact .cons h1 .nil
  | 2, h => exact .cons (h2 h) .nil
  | q + 3, h =>
    show VLes (OT.getD q []) _
    rw [hT q h]
    exact VLes.refl _
theorem ssf_congr {s s' : St} {g : Nat} (h1 : s'.nsp g = s.nsp g) (h2 : ∀ c, s'.sp g c = s.sp g c) : ssf s g = ssf s' g := by
  have : sf s g = sf s' g := funext fun c => by simp only [sf, h2]
  simp only [ssf, h1, this]
theorem W_fz {P : Program} {Γ : List (Nat × List AVal)} {nt kb : Nat} {Q : AQ} {k : Nat} {fr : Fr} {H : Heap} {c : Code} {B : Blk} (id : Nat) (h : AM.W P Γ nt kb c Q k (frzF id B fr) (frzH id B H))
    (hH : AM.look H id = some B := by (simp -dsimp -implicitDefEqProofs only [go_sem, uU, eq_self, ↓reduceIte]; rfl)) (hp : B.pure = true := by rfl) : AM.W P Γ nt kb c Q k fr H := W_mv (Mv.freeze id hH hp) h
theorem W_pz {P : Program} {Γ : List (Nat × List AVal)} {nt kb : Nat} {Q : AQ} {k : Nat} {fr : Fr} {H : Heap} {c : Code} {s : Nat} {p : Bool} {rows : List (List AVal)} (id : Nat) (h : AM.W P Γ nt kb c Q k fr ((id, ⟨s, true, rows⟩) :: del H id))
    (hH : AM.look H id = some ⟨s, p, rows⟩ := by (simp -dsimp -implicitDefEqProofs only [go_sem, uU, eq_self, ↓reduceIte]; rfl)) (hc : (rows.all fun row => row.all clean) = true := by (simp -dsimp -implicitDefEqProofs only [go_sem, uU, eq_self, ↓reduceIte])) : AM.W P Γ nt kb c Q k fr H := W_mv (Mv.pure id hH hc) h
theorem lsN {α : Type} {l : List α} {i : Nat} {a : α} : (l.set i a).length = l.length := List.length_set ..
theorem laN {α : Type} {l m : List α} : (l ++ m).length = l.length + m.length := List.length_append ..
theorem l1N {α : Type} {a : α} : [a].length = 1 := rfl
set_option maxHeartbeats 16000000 in
theorem spoiltF (s : St) (hs : s.Small) (hF : Full s) (hp : ∀ g, g < s.ns → 0 < s.nsp g) (w : Nat) (hw : w < 40) :
    AM.Pure Tryz.prog Γ 23 [.agg s.cells, .lit (.int .i64 (w : Int))] (.agg (spoilS s w).cells) := by
  obtain ⟨f1, f2, f3, f4, f5, f6, f7, f8⟩ := hF
  obtain ⟨hng, hnk, hnu, hnt, hns, hnsp⟩ := id hs
  obtain ⟨RV, eRV⟩ : ∃ v, v = AVal.agg (spoilS s w).cells := ⟨_, rfl⟩
  rw [← eRV]
  refine Pure_at Tryz.func23 rfl 340 rfl (Nat.le_of_ble_eq_true rfl) (by rw [eRV]; rfl) fun k => ?_
  have hcp := copyStateA s hs f3 hp (by omega) (by omega) (by omega) (by omega) (k + 2) (Γ := Γ)
  simp only [Nat.add_assoc, Nat.reduceAdd] at hcp
  obtain ⟨OT, eOT⟩ : ∃ l, l = (List.range (s.ns - 3)).map fun j => ssf s (3 + j) := ⟨_, rfl⟩
  have eO : oR s (k + 2) s.ns = [.sl (k + 5) 0 (s.nsp 0)] :: [.sl (k + 6) 0 (s.nsp 1)] :: [.sl (k + 7) 0 (s.nsp 2)] :: OT := by
    rw [eOT, show s.ns = (s.ns - 3) + 3 by omega]
    exact oR_cons
  have hO1 : OT.all (fun row => row.all AM.one) = true := by rw [eOT]; exact all_rows fun _ => rfl
  have hOl : OT.length + 3 = s.ns := by rw [eOT]; simp; omega
  have hO3 : s.ns ≤ OT.length + 3 := by omega
  have hO2 : 2 ≤ OT.length + 3 := by omega
  have hG2 : 2 ≤ s.ng := by omega
  have hp1 : 1 ≤ s.nsp 1 := by omega
  have hOT : ∀ q, q + 3 < s.ns → OT.getD q [] = ssf s (q + 3) := fun q h => by
    rw [eOT, rngD, if_pos (by omega), Nat.add_comm]
  have hOz : ∀ (id : Nat) (B : Blk), OT.map (fun row => row.map (frz0 id B)) = OT := fun _ _ => by rw [eOT]; exact frz_rows (all_clean fun _ => rfl)
  have hOc : OT.all (fun row => row.all clean) = true := by rw [eOT]; exact all_clean fun _ => rfl
  rw [eO] at hcp
  obtain ⟨GR, eG⟩ : ∃ l, l = grR s := ⟨_, rfl⟩
  obtain ⟨KR, eK⟩ : ∃ l, l = klR' s := ⟨_, rfl⟩
  obtain ⟨UR, eU⟩ : ∃ l, l = ulR' s := ⟨_, rfl⟩
  obtain ⟨TR, eT⟩ : ∃ l, l = tkR' s := ⟨_, rfl⟩
  obtain ⟨S0, eS0⟩ : ∃ l, l = sRs s 0 := ⟨_, rfl⟩
  obtain ⟨S1, eS1⟩ : ∃ l, l = sRs s 1 := ⟨_, rfl⟩
  obtain ⟨S2, eS2⟩ : ∃ l, l = sRs s 2 := ⟨_, rfl⟩
  rw [← eG, ← eK, ← eU, ← eT, ← eS0, ← eS1, ← eS2] at hcp
  have lG : GR.length = s.ng := by rw [eG]; simp [grR]
  have lK : KR.length = s.nk := by rw [eK]; simp [klR']
  have lU : UR.length = s.nu := by rw [eU]; simp [ulR']
  have lTR : TR.length = s.nt := by rw [eT]; simp [tkR']
  have l0 : S0.length = s.nsp 0 := by rw [eS0]; simp [sRs]
  have l1 : S1.length = s.nsp 1 := by rw [eS1]; simp [sRs]
  have l2 : S2.length = s.nsp 2 := by rw [eS2]; simp [sRs]
  have kp : Kp [0,1,2,4,5,6,61,69,79,83,87,95,102,109,117,124,131,137,147,159,164,169,177,182,187,192,197,213,222,227,233,238,243,248,253,258,263,268,273,278,283,291,299,307,315,323,331] (fun i => i - k) := kpI
  refine wl ?_; refine zq1 ⟨⟨⟨?_⟩⟩⟩
  refine cl [.gen (.agg [.lit (.int .i64 s.cpus), .lit (.int .u64 s.credit), .sl (k + 10) 0 s.ng, .sl (k + 11) 0 s.nk, .sl (k + 12) 0 s.nu, .sl (k + 13) 0 s.nt, .sl (k + 4) 0 s.ns]) (k + 14) [] [(k + 13, ⟨8, true, TR⟩), (k + 12, ⟨1, true, UR⟩), (k + 11, ⟨1, true, KR⟩), (k + 10, ⟨2, true, GR⟩), (k + 7, ⟨3, true, S2⟩), (k + 6, ⟨3, true, S1⟩), (k + 5, ⟨3, true, S0⟩), (k + 4, ⟨1, false, [.sl (k + 5) 0 (s.nsp 0)] :: [.sl (k + 6) 0 (s.nsp 1)] :: [.sl (k + 7) 0 (s.nsp 2)] :: OT⟩)]] ?_; refine zq2 ⟨⟨⟨?_⟩⟩⟩ ⟨⟨⟨?_⟩⟩⟩
  all_goals (try exact hcp)
  have q2 := hnsp 2 (by omega)
  have t00 : ∀ r, (TR.set 0 r)[0]? = some r := fun r => List.getElem?_set_self (by omega)
  have t01 : ∀ r, (TR.set 0 r)[1]? = some (tf s 1) := fun r => by rw [List.getElem?_set_ne (by omega)]; rw [eT]; simp [tkR', show 1 < s.nt by omega]
  have g2 : GR[2]? = some [.lit (.int .i64 (s.par 2)), .lit (.int .i64 (s.wt 2))] := by rw [eG]; simp [grR, gf, show 2 < s.ng by omega]
  have k0 : KR[0]? = some [.lit (.int .i64 (s.clk 0))] := by rw [eK]; simp [klR', kf, show 0 < s.nk by omega]
  have k1 : KR[1]? = some [.lit (.int .i64 (s.clk 1))] := by rw [eK]; simp [klR', kf, show 1 < s.nk by omega]
  have u0 : UR[0]? = some [.lit (.int .i64 (s.cur 0))] := by rw [eU]; simp [ulR', uf, show 0 < s.nu by omega]
  have u1 : UR[1]? = some [.lit (.int .i64 (s.cur 1))] := by rw [eU]; simp [ulR', uf, show 1 < s.nu by omega]
  have t0 : TR[0]? = some (tf s 0) := by rw [eT]; simp [tkR', show 0 < s.nt by omega]
  have t1 : TR[1]? = some (tf s 1) := by rw [eT]; simp [tkR', show 1 < s.nt by omega]
  have t2 : TR[2]? = some (tf s 2) := by rw [eT]; simp [tkR', show 2 < s.nt by omega]
  have a0 : S0[0]? = some (sf s 0 0) := by rw [eS0]; simp [sRs, show 0 < s.nsp 0 by omega]
  have a1 : S0[1]? = some (sf s 0 1) := by rw [eS0]; simp [sRs, show 1 < s.nsp 0 by omega]
  have b0 : S1[0]? = some (sf s 1 0) := by rw [eS1]; simp [sRs, show 0 < s.nsp 1 by omega]
  have b1 : S1[1]? = some (sf s 1 1) := by rw [eS1]; simp [sRs, show 1 < s.nsp 1 by omega]
  have c1 : S2[1]? = some (sf s 2 1) := by rw [eS2]; simp [sRs, show 1 < s.nsp 2 by omega]
  have oG : (GR.all fun row => row.all AM.one) = true := by rw [eG]; exact rows_one_of _ _ fun _ => rfl
  have oK : (KR.all fun row => row.all AM.one) = true := by rw [eK]; exact rows_one_of _ _ fun _ => rfl
  have oU : (UR.all fun row => row.all AM.one) = true := by rw [eU]; exact rows_one_of _ _ fun _ => rfl
  have oT : (TR.all fun row => row.all AM.one) = true := by rw [eT]; exact rows_one_of _ _ fun _ => rfl
  have o0 : (S0.all fun row => row.all AM.one) = true := by rw [eS0]; exact rows_one_of _ _ fun _ => rfl
  have o1 : (S1.all fun row => row.all AM.one) = true := by rw [eS1]; exact rows_one_of _ _ fun _ => rfl
  have o2 : (S2.all fun row => row.all AM.one) = true := by rw [eS2]; exact rows_one_of _ _ fun _ => rfl
  (repeat' (first | (refine C_seq rfl ?_) | (refine C_block rfl ?_) | (refine C_skip rfl ?_; (try simp -dsimp -implicitDefEqProofs only [go_sem, lG, lK, lU, lTR, l0, l1, l2, g2, k0, k1, u0, u1, t0, t1, t2, a0, a1, b0, b1, c1, oG, oK, oU, oT, o0, o1, o2, hO1, tf, sf, t00, t01, List.set_set, eq_self, ↓reduceIte])) | (refine C_exit rfl ?_; (try simp -dsimp -implicitDefEqProofs only [go_sem, lG, lK, lU, lTR, l0, l1, l2, g2, k0, k1, u0, u1, t0, t1, t2, a0, a1, b0, b1, c1, oG, oK, oU, oT, o0, o1, o2, hO1, tf, sf, t00, t01, List.set_set, eq_self, ↓reduceIte])) | (refine C_cond rfl _ rfl (fun ht => ?_) (fun ht => ?_) <;> (try (simp only [nf] at ht)) <;> (try (exfalso; omega))) | ((first | (refine S_reg0 rfl [0,1,2,4,5,6,61,69,79,83,87,95,102,109,117,124,131,137,147,159,164,169,177,182,187,192,197,213,222,227,233,238,243,248,253,258,263,268,273,278,283,291,299,307,315,323,331] rfl rfl (fun K hK => ?_)) | (refine S_drw0 rfl [0,1,2,4,5,6,61,69,79,83,87,95,102,109,117,124,131,137,147,159,164,169,177,182,187,192,197,213,222,227,233,238,243,248,253,258,263,268,273,278,283,291,299,307,315,323,331] rfl (by kernel_rfl) rfl (fun K hK => ?_))); simp -dsimp -implicitDefEqProofs only [go_sem, lG, lK, lU, lTR, l0, l1, l2, g2, k0, k1, u0, u1, t0, t1, t2, a0, a1, b0, b1, c1, oG, oK, oU, oT, o0, o1, o2, hO1, tf, sf, t00, t01, List.set_set, eq_self, ↓reduceIte]; (repeat' (first | (refine And.intro ?_ ?_) | (refine gs_both (fun hb => ?_) (fun hb => ?_) <;> (have hg := hb; (try simp only [nfb] at hg); simp -dsimp -implicitDefEqProofs only [go_sem, lG, lK, lU, lTR, l0, l1, l2, g2, k0, k1, u0, u1, t0, t1, t2, a0, a1, b0, b1, c1, oG, oK, oU, oT, o0, o1, o2, hO1, tf, sf, t00, t01, List.set_set, hb, hg, eq_self, ↓reduceIte]; clear hb; (try simp only [nfe] at hg))))); any_goals ((first | (refine hK _ _ _ _ (fun hx => ?_)) | (refine hK _ _ _ _ (drawOk_names (fun i => i - k) (by simp only [List.map_cons, List.map_nil, shG, lG, lK, lU, lTR, l0, l1, l2, g2, k0, k1, u0, u1, t0, t1, t2, a0, a1, b0, b1, c1, oG, oK, oU, oT, o0, o1, o2, hO1, tf, sf, t00, t01, List.set_set, ↓reduceIte, Nat.add_sub_cancel_left, Nat.sub_self]; rfl) (by decide +kernel) (by simp -dsimp -implicitDefEqProofs only [go_sem, lG, lK, lU, lTR, l0, l1, l2, g2, k0, k1, u0, u1, t0, t1, t2, a0, a1, b0, b1, c1, oG, oK, oU, oT, o0, o1, o2, hO1, tf, sf, t00, t01, List.set_set, eq_self, ↓reduceIte])) (fun hx => ?_)) | (refine hK _ _ _ _ (drawOk_of (by kernel_rfl) (by simp -dsimp -implicitDefEqProofs only [go_sem, lG, lK, lU, lTR, l0, l1, l2, g2, k0, k1, u0, u1, t0, t1, t2, a0, a1, b0, b1, c1, oG, oK, oU, oT, o0, o1, o2, hO1, tf, sf, t00, t01, List.set_set, eq_self, ↓reduceIte])) (fun hx => ?_))); clear hx hK; simp -dsimp -implicitDefEqProofs only [go_sem, lG, lK, lU, lTR, l0, l1, l2, g2, k0, k1, u0, u1, t0, t1, t2, a0, a1, b0, b1, c1, oG, oK, oU, oT, o0, o1, o2, hO1, tf, sf, t00, t01, List.set_set, eq_self, ↓reduceIte]; (try simp (disch := omega) only [wrap_i64, wrap_u64, wrap_u32, wrap_u8]))) | omega))
  all_goals (have uU := zA @lG (zA @lK (zA @lU (zA @lTR (zA @l0 (zA @l1 (zA @l2 (zA @frzF.eq_1 (zA @frz_app (zA @hOz (zA @hOc (zA @hO3 (zA @hO2 (zA @hG2 (zA @hp1 (zA @lsN (zA @laN (zA @l1N @Nat.le_refl))))))))))))))))); skip)
  all_goals (try (refine W_fz (k + 15) ?_; refine rR ?_; apply zN))
  all_goals (try (refine W_fz (k + 5) ?_; refine rR ?_; apply zN))
  all_goals (try (refine W_fz (k + 6) ?_; refine rR ?_; apply zN))
  all_goals (try (refine W_fz (k + 7) ?_; refine rR ?_; apply zN))
  all_goals (refine W_pz (k + 4) ?_; refine rR ?_; apply zN)
  all_goals (try (refine W_fz (k + 4) ?_; refine rR ?_; apply zN))
  all_goals (try (refine W_fz (k + 10) ?_; refine rR ?_; apply zN))
  all_goals (try (refine W_fz (k + 11) ?_; refine rR ?_; apply zN))
  all_goals (try (refine W_fz (k + 12) ?_; refine rR ?_; apply zN))
  all_goals (try (refine W_fz (k + 13) ?_; refine rR ?_; apply zN))
  all_goals (refine C_ret rfl ?_; refine rR ?_; apply zN)
  all_goals (refine ⟨_, rfl, ?_⟩)
  all_goals (rw [eRV])
  all_goals (first | (have e : w = 0 := (by omega); subst e) | (have e : w = 1 := (by omega); subst e) | (have e : w = 2 := (by omega); subst e) | (have e : w = 3 := (by omega); subst e) | (have e : w = 4 := (by omega); subst e) | (have e : w = 5 := (by omega); subst e) | (have e : w = 6 := (by omega); subst e) | (have e : w = 7 := (by omega); subst e) | (have e : w = 8 := (by omega); subst e) | (have e : w = 9 := (by omega); subst e) | (have e : w = 10 := (by omega); subst e) | (have e : w = 11 := (by omega); subst e) | (have e : w = 12 := (by omega); subst e) | (have e : w = 13 := (by omega); subst e) | (have e : w = 14 := (by omega); subst e) | (have e : w = 15 := (by omega); subst e) | (have e : w = 16 := (by omega); subst e) | (have e : w = 17 := (by omega); subst e) | (have e : w = 18 := (by omega); subst e) | (have e : w = 19 := (by omega); subst e) | (have e : w = 20 := (by omega); subst e) | (have e : w = 21 := (by omega); subst e) | (have e : w = 22 := (by omega); subst e) | (have e : w = 23 := (by omega); subst e) | (have e : w = 24 := (by omega); subst e) | (have e : w = 25 := (by omega); subst e) | (have e : w = 26 := (by omega); subst e) | (have e : w = 27 := (by omega); subst e) | (have e : w = 28 := (by omega); subst e) | (have e : w = 29 := (by omega); subst e) | (have e : w = 30 := (by omega); subst e) | (have e : w = 31 := (by omega); subst e) | (have e : w = 32 := (by omega); subst e) | (have e : w = 33 := (by omega); subst e) | (have e : w = 34 := (by omega); subst e) | (have e : w = 35 := (by omega); subst e) | (have e : w = 36 := (by omega); subst e) | (have e : w = 37 := (by omega); subst e) | (have e : w = 38 := (by omega); subst e) | (have e : w = 39 := (by omega); subst e))
  all_goals (refine VLe.aggs (.cons ?_ (.cons ?_ (.cons ?_ (.cons ?_ (.cons ?_ (.cons ?_ (.cons ?_ .nil))))))))
  all_goals (first | exact VLe.refl _ | skip)
  all_goals (try (refine spotsV rfl ?_ ?_ (fun h => ?_) ?_))
  all_goals (try exact VLe.refl _)
  all_goals (first | (intro q hq; (try simp only [spoilS, tkS, spS, clS, cuS] at hq); first | (exfalso; omega) | (rw [hOT q (by omega)]; have e0 : ¬ q + 3 = 0 := (by omega); have e1 : ¬ q + 3 = 1 := (by omega); have e2 : ¬ q + 3 = 2 := (by omega); exact ssf_congr (by simp only [spoilS, tkS, spS, clS, cuS, e0, e1, e2, if_false]) (fun c => by simp only [spoilS, tkS, spS, clS, cuS, e0, e1, e2, false_and, if_false]))) | (refine vR fun q hq => ?_; simp only [getD_setL, getD_appL, eG, eK, eU, eT, eS0, eS1, eS2, grR, klR', ulR', tkR', sRs, rngD, List.length_map, List.length_range]; simp only [spoilS, tkS, spS, clS, cuS] at hq ⊢; simp only [gf, kf, uf, tf, sf]; (repeat' split) <;> first | rfl | (exfalso; omega) | (rename_i h1 h2; subst h2; rfl) | (rename_i h1 h2; obtain ⟨rfl, _⟩ := h1; rfl)) | skip)
  all_goals (first | exact vS_app (x := ⟨0, 0, 0⟩) eS2 rfl (fun c => by simp [spoilS, spS]) | exact vT_two (x := { s.tsk 0 with id := (s.tsk 1).id }) (y := { s.tsk 1 with id := (s.tsk 0).id }) eT (by omega) rfl (fun j => rfl) | exact vS_set (x := ⟨(s.sp 2 1).v, 9, (s.sp 2 1).floor⟩) eS2 (by omega) rfl (fun c => by simp [spoilS, spS]) | exact vS_set (x := ⟨1, (s.sp 0 1).r, (s.sp 0 1).floor⟩) eS0 (by omega) rfl (fun c => by simp [spoilS, spS]) | exact vS_set (x := ⟨(s.sp 0 0).v, 1, (s.sp 0 0).floor⟩) eS0 (by omega) rfl (fun c => by simp [spoilS, spS]) | exact vS_set (x := ⟨(s.sp 2 1).v, (s.sp 2 1).r, 5⟩) eS2 (by omega) rfl (fun c => by simp [spoilS, spS]) | exact vS_set (x := ⟨(s.sp 0 0).v, (s.sp 0 0).r, 3⟩) eS0 (by omega) rfl (fun c => by simp [spoilS, spS]) | exact vS_set (x := ⟨(s.sp 1 1).v, (s.sp 1 1).r, 1⟩) eS1 (by omega) rfl (fun c => by simp [spoilS, spS]) | exact vS_set (x := ⟨(s.sp 1 0).v, (s.sp 1 0).r, 9⟩) eS1 (by omega) rfl (fun c => by simp [spoilS, spS, clS]))
end Go.Proofs.T
end
section
namespace Go.Proofs.T
open Go Go.AM Go.Proofs
set_option maxRecDepth 20000
variable {Γ : List (Nat × List AVal)}
set_option maxHeartbeats 8000000 in
theorem spoiltN (s : St) (hs : s.Small) (hF : ¬ Full s) (w : Nat) (hw : w < 40) :
    AM.Pure Tryz.prog Γ 23 [.agg s.cells, .lit (.int .i64 (w : Int))] (.agg s.cells) := by
  have hF' : ¬ (3 ≤ s.nt ∧ 3 ≤ s.ng ∧ 3 ≤ s.ns ∧ 2 ≤ s.nsp 0 ∧ 2 ≤ s.nsp 1 ∧ 2 ≤ s.nsp 2 ∧ 2 ≤ s.nk ∧ 2 ≤ s.nu) := fun h => hF ⟨h.1, h.2.1, h.2.2.1, h.2.2.2.1, h.2.2.2.2.1, h.2.2.2.2.2.1, h.2.2.2.2.2.2.1, h.2.2.2.2.2.2.2⟩
  have hco := copyState s hs (Γ := Γ)
  refine Pure_at Tryz.func23 rfl 340 rfl (Nat.le_of_ble_eq_true rfl) rfl fun k => ?_
  have kp : Kp [0,1,2,4,5,6,61,69,79,83,87,95,102,109,117,124,131,137,147,159,164,169,177,182,187,192,197,213,222,227,233,238,243,248,253,258,263,268,273,278,283,291,299,307,315,323,331] (fun i => i - k) := kpI
  refine wl ?_; refine zq1 ⟨⟨⟨?_⟩⟩⟩
  refine cl [.ret (.agg s.cells)] ?_; refine zq2 ⟨⟨⟨?_⟩⟩⟩ ⟨⟨⟨?_⟩⟩⟩
  all_goals (try exact hco)
  (repeat' (first | (refine C_seq rfl ?_) | (refine C_block rfl ?_) | (refine C_skip rfl ?_; (try simp -dsimp -implicitDefEqProofs only [go_sem, eq_self, ↓reduceIte])) | (refine C_exit rfl ?_; (try simp -dsimp -implicitDefEqProofs only [go_sem, eq_self, ↓reduceIte])) | (refine C_cond rfl _ rfl (fun ht => ?_) (fun ht => ?_) <;> (try (simp only [nf] at ht)) <;> (try (exfalso; omega))) | ((first | (refine S_reg0 rfl [0,1,2,4,5,6,61,69,79,83,87,95,102,109,117,124,131,137,147,159,164,169,177,182,187,192,197,213,222,227,233,238,243,248,253,258,263,268,273,278,283,291,299,307,315,323,331] rfl rfl (fun K hK => ?_)) | (refine S_drw0 rfl [0,1,2,4,5,6,61,69,79,83,87,95,102,109,117,124,131,137,147,159,164,169,177,182,187,192,197,213,222,227,233,238,243,248,253,258,263,268,273,278,283,291,299,307,315,323,331] rfl (by kernel_rfl) rfl (fun K hK => ?_))); simp -dsimp -implicitDefEqProofs only [go_sem, eq_self, ↓reduceIte]; (repeat' (first | (refine And.intro ?_ ?_) | (refine gs_both (fun hb => ?_) (fun hb => ?_) <;> (have hg := hb; (try simp only [nfb] at hg); simp -dsimp -implicitDefEqProofs only [go_sem, hb, hg, eq_self, ↓reduceIte]; clear hb; (try simp only [nfe] at hg))))); any_goals ((first | (refine hK _ _ _ _ (fun hx => ?_)) | (refine hK _ _ _ _ (drawA (fun i => i - k)) (fun hx => ?_)) | (refine hK _ _ _ _ drawB (fun hx => ?_))); clear hx hK; simp -dsimp -implicitDefEqProofs only [go_sem, eq_self, ↓reduceIte]; (try simp (disch := omega) only [wrap_i64, wrap_u64, wrap_u32, wrap_u8]))) | omega))
  all_goals (refine C_ret rfl ?_; (refine rR ?_; apply zN))
  all_goals exact ⟨_, rfl, VLe.refl _⟩
def toL (s : St) : LSt := ⟨s.cpus, s.credit, (List.range s.ng).map fun g => (s.par g, s.wt g), (List.range s.nk).map s.clk, (List.range s.nu).map s.cur, (List.range s.nt).map s.tsk, (List.range s.ns).map fun g => (List.range (s.nsp g)).map (s.sp g)⟩
theorem getD_rng {α : Type} {n i : Nat} {f : Nat → α} {d : α} (h : i < n) : ((List.range n).map f).getD i d = f i := by simp [List.getD_eq_getElem?_getD, h]
theorem toL_le (s : St) : VLe (.agg s.cells) (.agg (toL s).st.cells) := by
  have e1 : (toL s).st.ng = s.ng := by simp [toL, LSt.st]
  have e2 : (toL s).st.nk = s.nk := by simp [toL, LSt.st]
  have e3 : (toL s).st.nu = s.nu := by simp [toL, LSt.st]
  have e4 : (toL s).st.nt = s.nt := by simp [toL, LSt.st]
  have e5 : (toL s).st.ns = s.ns := by simp [toL, LSt.st]
  refine VLe.aggs (.cons (VLe.refl _) (.cons (VLe.refl _) (.cons ?_ (.cons ?_ (.cons ?_ (.cons ?_ (.cons ?_ .nil)))))))
  · rw [e1]
    refine VLe.rd fun i hi => ?_
    simp only [gf, toL, LSt.st]
    rw [getD_rng hi]
  · rw [e2]
    refine VLe.rd fun i hi => ?_
    simp only [kf, toL, LSt.st]
    rw [getD_rng hi]
  · rw [e3]
    refine VLe.rd fun i hi => ?_
    simp only [uf, toL, LSt.st]
    rw [getD_rng hi]
  · rw [e4]
    refine VLe.rd fun i hi => ?_
    simp only [tf, toL, LSt.st]
    rw [getD_rng hi]
  · rw [e5]
    refine VLe.rds fun i hi => .cons ?_ .nil
    have e6 : (toL s).st.nsp i = s.nsp i := by
      show (((toL s).sl.getD i []).length) = _
      simp only [toL]
      rw [getD_rng hi]; simp
    rw [e6]
    refine VLe.rd fun c hc => ?_
    have e7 : (toL s).st.sp i c = s.sp i c := by
      show ((toL s).sl.getD i []).getD c default = _
      simp only [toL]
      rw [getD_rng hi, getD_rng hc]
    simp only [sf, e7]
structure PreS (s : St) (b : Nat) : Prop where
  ng : s.ng ≤ 6
  nk : s.nk ≤ 4 + b
  nu : s.nu ≤ 4 + b
  nt : s.nt ≤ 100
  ns : s.ns ≤ 6
  p0 : ∀ g, g < s.ns → 0 < s.nsp g
  p1 : ∀ g, g < s.ns → s.nsp g ≤ 4 + b
  c0 : 0 ≤ s.credit
  k : Kinds s
  tv : ∀ i, 0 ≤ (s.tsk i).v
  f0 : ∀ g c, 0 ≤ (s.sp g c).floor
  f1 : ∀ g c, (s.sp g c).floor ≤ 18446744073709551615
theorem PreS.small {s : St} {b : Nat} (h : PreS s b) (hb : b ≤ 8) : s.Small := ⟨by have := h.ng; omega, by have := h.nk; omega, by have := h.nu; omega, by have := h.nt; omega, by have := h.ns; omega, fun g hg => by have := h.p1 g hg; omega⟩
theorem PreS.pre {s : St} {b : Nat} (h : PreS s b) (hb : b ≤ 8) : PreOk s := ⟨h.small hb, by have := h.ns; omega, fun g hg => by have := h.p1 g hg; omega⟩
def TkR (t : Tk) : Prop := 0 ≤ t.mask ∧ t.mask < 18446744073709551616 ∧ 0 ≤ t.v ∧ t.v ≤ 18446744073709551615 ∧ 0 ≤ t.r
def SpR (x : Sp) : Prop := 0 ≤ x.v ∧ x.v ≤ 18446744073709551615 ∧ 0 ≤ x.r ∧ 0 ≤ x.floor ∧ x.floor ≤ 18446744073709551615
theorem PreS.tkr {s : St} {b : Nat} (h : PreS s b) (i : Nat) : TkR (s.tsk i) := ⟨h.k.wf.mask0 i, h.k.wf.mask1 i, h.tv i, h.k.wf.tv i, h.k.wf.tr i⟩
theorem PreS.spr {s : St} {b : Nat} (h : PreS s b) (g c : Nat) : SpR (s.sp g c) := ⟨h.k.v0 g c, h.k.wf.sv g c, h.k.wf.sr g c, h.f0 g c, h.f1 g c⟩
theorem PreS.of {s s' : St} {b b' : Nat} (h : PreS s b) (hb : b ≤ b') (e1 : s'.ng ≤ 6) (e2 : s'.nk ≤ 4 + b') (e3 : s'.nu ≤ 4 + b') (e4 : s'.nt ≤ 100) (e5 : s'.ns ≤ 6) (e6 : ∀ g, g < s'.ns → 0 < s'.nsp g ∧ s'.nsp g ≤ 4 + b') (e7 : 0 ≤ s'.credit)
    (ht : ∀ i, TkR (s'.tsk i)) (hs : ∀ g c, SpR (s'.sp g c)) : PreS s' b' :=
  ⟨e1, e2, e3, e4, e5, fun g hg => (e6 g hg).1, fun g hg => (e6 g hg).2, e7, ⟨⟨fun i => (ht i).1, fun i => (ht i).2.1, fun i => (ht i).2.2.2.1, fun i => (ht i).2.2.2.2, fun g c => (hs g c).2.1, fun g c => (hs g c).2.2.1⟩, fun g c => (hs g c).1⟩, fun i => (ht i).2.2.1, fun g c => (hs g c).2.2.2.1, fun g c => (hs g c).2.2.2.2⟩
theorem PreS.same {s s' : St} {b : Nat} (h : PreS s b) (e1 : s'.ng = s.ng) (e2 : s'.nk = s.nk) (e3 : s'.nu = s.nu) (e4 : s'.nt = s.nt) (e5 : s'.ns = s.ns) (e6 : s'.nsp = s.nsp) (e7 : 0 ≤ s'.credit)
    (ht : ∀ i, TkR (s'.tsk i)) (hs : ∀ g c, SpR (s'.sp g c)) : PreS s' (b + 1) :=
  h.of (Nat.le_succ _) (by have := h.ng; omega) (by have := h.nk; omega) (by have := h.nu; omega) (by have := h.nt; omega) (by have := h.ns; omega) (fun g hg => ⟨by rw [e6]; exact h.p0 g (by omega), by rw [e6]; have := h.p1 g (by omega); omega⟩) e7 ht hs
theorem PreS.tk {s : St} {b i : Nat} {f : Tk → Tk} (h : PreS s b) (hf : TkR (f (s.tsk i))) : PreS (tkS s i f) (b + 1) :=
  h.same rfl rfl rfl rfl rfl rfl h.c0 (fun j => by simp only [tkS]; split; exact hf; exact h.tkr j) h.spr
theorem PreS.sp {s : St} {b g c : Nat} {f : Sp → Sp} (h : PreS s b) (hf : SpR (f (s.sp g c))) : PreS (spS s g c f) (b + 1) :=
  h.same rfl rfl rfl rfl rfl rfl h.c0 h.tkr (fun a b => by simp only [spS]; split; exact hf; exact h.spr a b)
theorem PreS.spoil {s : St} {b w : Nat} (h : PreS s b) (hF : Full s) (hw : w < 40) : PreS (spoilS s w) (b + 1) := by
  match w, hw with
  | 0, _ => exact h.same rfl rfl rfl rfl rfl rfl h.c0 h.tkr h.spr
  | 1, _ => exact h.same rfl rfl rfl rfl rfl rfl h.c0 h.tkr h.spr
  | 2, _ => exact h.of (Nat.le_succ _) (by show 2 ≤ 6; omega) (by have := h.nk; show s.nk ≤ _; omega) (by have := h.nu; show s.nu ≤ _; omega) h.nt h.ns (fun g hg => ⟨h.p0 g hg, by have := h.p1 g hg; show s.nsp g ≤ _; omega⟩) h.c0 h.tkr h.spr
  | 3, _ => exact h.same rfl rfl rfl rfl rfl rfl h.c0 h.tkr h.spr
  | 4, _ => exact h.same rfl rfl rfl rfl rfl rfl h.c0 h.tkr h.spr
  | 5, _ => exact h.same rfl rfl rfl rfl rfl rfl (by show 0 ≤ IntKind.u64.wrap _; rw [IntKind.wrap_u64]; omega) h.tkr h.spr
  | 6, _ => exact h.of (Nat.le_succ _) h.ng (by have := h.nk; show s.nk + 1 ≤ _; omega) (by have := h.nu; show s.nu ≤ _; omega) h.nt h.ns (fun g hg => ⟨h.p0 g hg, by have := h.p1 g hg; show s.nsp g ≤ _; omega⟩) h.c0 h.tkr h.spr
  | 7, _ => exact h.of (Nat.le_succ _) h.ng (by have := h.nk; show s.nk ≤ _; omega) (by have := h.nu; show s.nu + 1 ≤ _; omega) h.nt h.ns (fun g hg => ⟨h.p0 g hg, by have := h.p1 g hg; show s.nsp g ≤ _; omega⟩) h.c0 h.tkr h.spr
  | 8, _ => exact h.of (Nat.le_succ _) h.ng (by have := h.nk; show s.nk ≤ _; omega) (by have := h.nu; show s.nu ≤ _; omega) h.nt (by show 2 ≤ 6; omega) (fun g hg => ⟨h.p0 g (by have := hF.ns; have : g < 2 := hg; omega), by have := h.p1 g (by have := hF.ns; have : g < 2 := hg; omega); show s.nsp g ≤ _; omega⟩) h.c0 h.tkr h.spr
  | 9, _ => exact h.of (Nat.le_succ _) h.ng (by have := h.nk; show s.nk ≤ _; omega) (by have := h.nu; show s.nu ≤ _; omega) h.nt h.ns (fun g hg => by have a := h.p0 g hg; have b := h.p1 g hg; show 0 < (if g = 1 then 1 else s.nsp g) ∧ (if g = 1 then 1 else s.nsp g) ≤ _; split <;> omega) h.c0 h.tkr h.spr
  | 10, _ => exact h.of (Nat.le_succ _) h.ng (by have := h.nk; show s.nk ≤ _; omega) (by have := h.nu; show s.nu ≤ _; omega) h.nt h.ns (fun g hg => by have a := h.p0 g hg; have b := h.p1 g hg; have c := h.p1 2 hF.ns; show 0 < (if g = 2 then s.nsp 2 + 1 else s.nsp g) ∧ (if g = 2 then s.nsp 2 + 1 else s.nsp g) ≤ _; split <;> omega) h.c0 h.tkr (fun a c => by show SpR (if a = 2 ∧ c = s.nsp 2 then _ else s.sp a c); split; exact ⟨by decide, by decide, by decide, by decide, by decide⟩; exact h.spr a c)
  | 11, _ => exact h.same rfl rfl rfl rfl rfl rfl h.c0 h.tkr h.spr
  | 12, _ => exact h.same rfl rfl rfl rfl rfl rfl h.c0 h.tkr h.spr
  | 13, _ => exact h.same rfl rfl rfl rfl rfl rfl h.c0 h.tkr h.spr
  | 14, _ => exact h.same rfl rfl rfl rfl rfl rfl h.c0 h.tkr h.spr
  | 15, _ => exact h.same rfl rfl rfl rfl rfl rfl h.c0 h.tkr h.spr
  | 16, _ => exact h.same rfl rfl rfl rfl rfl rfl h.c0 h.tkr h.spr
  | 17, _ => exact h.same rfl rfl rfl rfl rfl rfl h.c0 h.tkr h.spr
  | 18, _ => exact h.same rfl rfl rfl rfl rfl rfl h.c0 (fun j => by show TkR (if j = 0 then _ else if j = 1 then _ else s.tsk j); split; exact h.tkr 0; split; exact h.tkr 1; exact h.tkr j) h.spr
  | 19, _ =>
    simp only [spoilS]
    exact h.tk (h.tkr 1)
  | 20, _ =>
    simp only [spoilS]
    exact h.tk (h.tkr 0)
  | 21, _ =>
    simp only [spoilS]
    exact h.tk (h.tkr 2)
  | 22, _ =>
    simp only [spoilS]
    exact h.tk (h.tkr 0)
  | 23, _ =>
    simp only [spoilS]
    exact h.tk (h.tkr 1)
  | 24, _ =>
    simp only [spoilS]
    exact h.tk (h.tkr 0)
  | 25, _ =>
    simp only [spoilS]
    exact h.tk (h.tkr 1)
  | 26, _ =>
    simp only [spoilS]
    exact h.tk ⟨by first | decide | simp, by first | decide | simp, (h.tkr 0).2.2⟩
  | 27, _ =>
    simp only [spoilS]
    exact h.tk ⟨by first | decide | simp, by first | decide | simp, (h.tkr 0).2.2⟩
  | 28, _ =>
    simp only [spoilS]
    exact h.tk ⟨by first | decide | simp, by first | decide | simp, (h.tkr 1).2.2⟩
  | 29, _ =>
    simp only [spoilS]
    exact h.tk ⟨(h.tkr 0).1, (h.tkr 0).2.1, (h.tkr 0).2.2.1, (h.tkr 0).2.2.2.1, by first | decide | simp⟩
  | 30, _ =>
    simp only [spoilS]
    exact h.tk (h.tkr 1)
  | 31, _ =>
    simp only [spoilS]
    exact h.tk (h.tkr 0)
  | 32, _ =>
    simp only [spoilS]
    exact h.sp ⟨(h.spr 2 1).1, (h.spr 2 1).2.1, by first | decide | simp, (h.spr 2 1).2.2.2⟩
  | 33, _ =>
    simp only [spoilS]
    exact h.sp ⟨by first | decide | simp, by first | decide | simp, (h.spr 0 1).2.2⟩
  | 34, _ =>
    simp only [spoilS]
    exact h.sp ⟨(h.spr 0 0).1, (h.spr 0 0).2.1, by first | decide | simp, (h.spr 0 0).2.2.2⟩
  | 35, _ =>
    simp only [spoilS]
    exact h.sp ⟨(h.spr 2 1).1, (h.spr 2 1).2.1, (h.spr 2 1).2.2.1, by first | decide | simp, by first | decide | simp⟩
  | 36, _ =>
    simp only [spoilS]
    exact h.sp ⟨(h.spr 0 0).1, (h.spr 0 0).2.1, (h.spr 0 0).2.2.1, by first | decide | simp, by first | decide | simp⟩
  | 37, _ =>
    simp only [spoilS]
    exact h.sp ⟨(h.spr 1 1).1, (h.spr 1 1).2.1, (h.spr 1 1).2.2.1, by first | decide | simp, by first | decide | simp⟩
  | 38, _ =>
    simp only [spoilS]
    exact h.tk ⟨(h.tkr 0).1, (h.tkr 0).2.1, by first | decide | simp, by first | decide | simp, by first | decide | simp⟩
  | 39, _ => exact h.same rfl rfl rfl rfl rfl rfl h.c0 h.tkr (fun a c => by
      show SpR (if a = 1 ∧ c = 0 then _ else s.sp a c)
      split
      · exact ⟨(h.spr 1 0).1, (h.spr 1 0).2.1, (h.spr 1 0).2.2.1, by first | decide | simp, by first | decide | simp⟩
      · exact h.spr a c)
  | w + 40, hw => exact absurd hw (by omega)
end Go.Proofs.T
end
section
namespace Go.Proofs.T
open Go Go.AM Go.Proofs
set_option maxRecDepth 20000
variable {Γ : List (Nat × List AVal)}
theorem Pure_le0 {P : Program} {f : FuncId} {args : List AVal} {r r' : AVal} (h : AM.Pure P Γ f args r) (hle : VLe r r') : AM.Pure P Γ f args r' := fun k A hA w G ρ cargs h1 h2 =>
  (h k A hA w G ρ cargs h1 h2).mono fun _ _ ⟨cv, G', ρ', k', r1, H', he, ⟨e1, e2, e3⟩, a, b, c, d⟩ => ⟨cv, G', ρ', k', r', H', he, ⟨e1, rfl, e3⟩, a, b, hle _ _ _ _ _ (e2 ▸ c), d⟩
end Go.Proofs.T
end
section
namespace Go.Proofs.T
open Go Go.AM Go.Proofs
set_option maxRecDepth 20000
variable {Γ : List (Nat × List AVal)}
def cellsZ (s : St) : List AVal := [.lit (.int .i64 s.cpus), .lit (.int .u64 s.credit), .rd 2 s.ng (gf s), .rd 1 s.nk (kf s), .rd 1 s.nu (uf s), if s.nt = 0 then .lit (.slice none 0 0) else .rd 8 s.nt (tf s), .rd 1 s.ns (ssf s)]
theorem cellsZ_le (s : St) : VLe (.agg (cellsZ s)) (.agg s.cells) := by
  refine VLe.aggs (.cons (VLe.refl _) (.cons (VLe.refl _) (.cons (VLe.refl _) (.cons (VLe.refl _) (.cons (VLe.refl _) (.cons ?_ (.cons (VLe.refl _) .nil)))))))
  split
  · rename_i h; rw [h]; exact VLe.nil _ _
  · exact VLe.refl _
theorem cellsZ_pos {s : St} (h : 0 < s.nt) : cellsZ s = s.cells := by
  have h' : ¬ s.nt = 0 := by omega
  unfold cellsZ
  rw [if_neg h']
  rfl
theorem cellsZ_zero {s : St} (h : s.nt = 0) : cellsZ s = [.lit (.int .i64 s.cpus), .lit (.int .u64 s.credit), .rd 2 s.ng (gf s), .rd 1 s.nk (kf s), .rd 1 s.nu (uf s), .lit (.slice none 0 0), .rd 1 s.ns (ssf s)] := by
  unfold cellsZ
  rw [if_pos h]
theorem copyState0 (s : St) (hs : s.Small) (h0 : s.nt = 0) : AM.Pure Tryz.prog Γ 21 [.agg s.cells] (.agg (cellsZ s)) := by
  obtain ⟨hng, hnk, hnu, hnt, hns, hnsp⟩ := id hs
  rw [cellsZ_zero h0]
  refine Pure_at Tryz.func21 rfl 44 rfl (Nat.le_of_ble_eq_true rfl) rfl fun k => ?_
  have kp : Kp [0,1,2,3,4,5,6,11] (fun i => i - k) := kpI
  refine wl ?_; refine zq1 ⟨⟨⟨?_⟩⟩⟩
  refine M_forO (X := Nat) rfl [0,1,2,3,4,5,6,11] (k + 3) (fun i => [(5, .lit (.int .i64 (i : Int))), (4, accV (k + 2) (spL s i))]) (fun i => accH (k + 2) 1 (spL s i) [(k + 1, ⟨7, true, [zst]⟩), (k, ⟨7, true, [s.cells]⟩)]) (fun i => i ≤ s.ns) (fun i => s.ns - i) 0 ?_ (Nat.zero_le _) ?_
  · rw [spL_zero]
    refine rR ?_; apply zN
    exact wkF
  intro i hi
  refine rR ?_; apply zN
  have hcl : ((spL s i ++ [ssf s i]).all fun row => row.all clean) = true := by rw [← spL_succ]; exact spL_clean s (i + 1)
  refine wl ?_; refine zq2 ⟨fun ht => ⟨⟨?_⟩⟩⟩ ⟨fun ht => ⟨⟨?_⟩⟩⟩
  · by_cases hz : s.nsp i = 0
    · have uU := @hz
      refine wl ?_; refine zq1 ⟨⟨⟨?_⟩⟩⟩
      refine ⟨i + 1, by omega, by omega, ?_⟩
      rw [spL_succ]
      refine Mv.trans (Mv.row (k + 4) (ssf s i) (by simp -dsimp -implicitDefEqProofs only [go_sem, hz, List.map_append, Flt.row, eq_self, ↓reduceIte]; rfl) (by rw [ssf, hz]; exact .cons (VLe.nil _ _) .nil) hcl) ?_
      exact Mv.app (k + 4) (k + 2) ⟨by omega, by omega⟩ ⟨by omega, by omega⟩ (wk_low (by omega) (by simp -dsimp -implicitDefEqProofs only [go_sem, hz, List.map_append, Flt.row, eq_self, ↓reduceIte]) (by simp -dsimp -implicitDefEqProofs only [go_sem, hz, List.map_append, Flt.row, eq_self, ↓reduceIte]) (by simp -dsimp -implicitDefEqProofs only [go_sem, hz, List.map_append, Flt.row, eq_self, ↓reduceIte]) (by simp -dsimp -implicitDefEqProofs only [go_sem, hz, List.map_append, Flt.row, eq_self, ↓reduceIte]))
    · have hpos : 0 < s.nsp i := by omega
      have hle : s.nsp i ≤ 1000 := hnsp i (by omega)
      have uU := zA @hz @hpos
      refine wl ?_; refine zq1 ⟨⟨⟨?_⟩⟩⟩
      refine ⟨i + 1, by omega, by omega, ?_⟩
      rw [spL_succ]
      refine Mv.trans (Mv.freeze (k + 3) (by simp -dsimp -implicitDefEqProofs only [go_sem, hz, hpos, eq_self, ↓reduceIte]; rfl) rfl) ?_
      simp -dsimp -implicitDefEqProofs only [frzF, frz_app, go_sem, hz, hpos, frz_rows (spL_clean s i), eq_self, ↓reduceIte]
      refine Mv.trans (Mv.row (k + 5) (ssf s i) (by simp -dsimp -implicitDefEqProofs only [go_sem, hz, hpos, frz_rows (spL_clean s i), List.map_append, Flt.row, eq_self, ↓reduceIte]; rfl) (.cons (VLe.copy' _ _ _) .nil) hcl) ?_
      exact Mv.app (k + 5) (k + 2) ⟨by omega, by omega⟩ ⟨by omega, by omega⟩ (wk_low (by omega) (by simp -dsimp -implicitDefEqProofs only [go_sem, hz, hpos, frz_rows (spL_clean s i), List.map_append, Flt.row, eq_self, ↓reduceIte]) (by simp -dsimp -implicitDefEqProofs only [go_sem, hz, hpos, frz_rows (spL_clean s i), List.map_append, Flt.row, eq_self, ↓reduceIte]) (by simp -dsimp -implicitDefEqProofs only [go_sem, hz, hpos, frz_rows (spL_clean s i), List.map_append, Flt.row, eq_self, ↓reduceIte]) (by simp -dsimp -implicitDefEqProofs only [go_sem, hz, hpos, frz_rows (spL_clean s i), List.map_append, Flt.row, eq_self, ↓reduceIte]))
  · have hi' : i = s.ns := by omega
    subst hi'
    have hv : VLe (rows 1 (spL s s.ns)) (.rd 1 s.ns (ssf s)) := by
      rw [rows, spL_len]
      exact VLe.copy' _ _ _
    refine W_mv (Mv.frz_at (id := k + 2) (s := 1) (l := spL s s.ns) 4 (.rd 1 s.ns (ssf s)) [(k + 1, ⟨7, true, [zst]⟩), (k, ⟨7, true, [s.cells]⟩)] (by simp -dsimp -implicitDefEqProofs only [go_sem, List.map_append, Flt.row, eq_self, ↓reduceIte]) (by simp -dsimp -implicitDefEqProofs only [go_sem, List.map_append, Flt.row, eq_self, ↓reduceIte]) hv (by simp -dsimp -implicitDefEqProofs only [go_sem, List.map_append, Flt.row, eq_self, ↓reduceIte]) (by simp -dsimp -implicitDefEqProofs only [go_sem, List.map_append, Flt.row, eq_self, ↓reduceIte])) ?_
    refine rR ?_; apply zN
    have uU := @h0
    refine dl [.ret (.agg s.cfg), .ret (.rd 1 s.nk (kf s)), .ret (.rd 1 s.nu (uf s))] ?_; refine zq4 ⟨⟨⟨?_⟩⟩⟩ ⟨⟨⟨?_⟩⟩⟩ ⟨⟨⟨?_⟩⟩⟩ ⟨⟨⟨?_⟩⟩⟩
    · exact copyConfig s hs
    · exact copyInts s.nk s.clk hnk
    · exact copyInts s.nu s.cur hnu
    refine wl ?_; refine zq1 ⟨⟨⟨?_⟩⟩⟩
    have uU := @h0; refine cR ?_; apply zN
    exact VLe.refl _
set_option maxHeartbeats 8000000 in
theorem spoiltN0 (s : St) (hs : s.Small) (h0 : s.nt = 0) (w : Nat) (hw : w < 40) :
    AM.Pure Tryz.prog Γ 23 [.agg s.cells, .lit (.int .i64 (w : Int))] (.agg (cellsZ s)) := by
  have hco := copyState0 s hs h0 (Γ := Γ)
  rw [cellsZ_zero h0] at hco ⊢
  refine Pure_at Tryz.func23 rfl 340 rfl (Nat.le_of_ble_eq_true rfl) rfl fun k => ?_
  have kp : Kp [0,1,2,4,5,6,61,69,79,83,87,95,102,109,117,124,131,137,147,159,164,169,177,182,187,192,197,213,222,227,233,238,243,248,253,258,263,268,273,278,283,291,299,307,315,323,331] (fun i => i - k) := kpI
  refine wl ?_; refine zq1 ⟨⟨⟨?_⟩⟩⟩
  refine cl [.ret (.agg [.lit (.int .i64 s.cpus), .lit (.int .u64 s.credit), .rd 2 s.ng (gf s), .rd 1 s.nk (kf s), .rd 1 s.nu (uf s), .lit (.slice none 0 0), .rd 1 s.ns (ssf s)])] ?_; refine zq2 ⟨⟨⟨?_⟩⟩⟩ ⟨⟨⟨?_⟩⟩⟩
  all_goals (try exact hco)
  (repeat' (first | (refine C_seq rfl ?_) | (refine C_block rfl ?_) | (refine C_skip rfl ?_; (try simp -dsimp -implicitDefEqProofs only [go_sem, eq_self, ↓reduceIte])) | (refine C_exit rfl ?_; (try simp -dsimp -implicitDefEqProofs only [go_sem, eq_self, ↓reduceIte])) | (refine C_cond rfl _ rfl (fun ht => ?_) (fun ht => ?_) <;> (try (simp only [nf] at ht)) <;> (try (exfalso; omega))) | ((first | (refine S_reg0 rfl [0,1,2,4,5,6,61,69,79,83,87,95,102,109,117,124,131,137,147,159,164,169,177,182,187,192,197,213,222,227,233,238,243,248,253,258,263,268,273,278,283,291,299,307,315,323,331] rfl rfl (fun K hK => ?_)) | (refine S_drw0 rfl [0,1,2,4,5,6,61,69,79,83,87,95,102,109,117,124,131,137,147,159,164,169,177,182,187,192,197,213,222,227,233,238,243,248,253,258,263,268,273,278,283,291,299,307,315,323,331] rfl (by kernel_rfl) rfl (fun K hK => ?_))); simp -dsimp -implicitDefEqProofs only [go_sem, eq_self, ↓reduceIte]; (repeat' (first | (refine And.intro ?_ ?_) | (refine gs_both (fun hb => ?_) (fun hb => ?_) <;> (have hg := hb; (try simp only [nfb] at hg); simp -dsimp -implicitDefEqProofs only [go_sem, hb, hg, eq_self, ↓reduceIte]; clear hb; (try simp only [nfe] at hg))))); any_goals ((first | (refine hK _ _ _ _ (fun hx => ?_)) | (refine hK _ _ _ _ (drawA (fun i => i - k)) (fun hx => ?_)) | (refine hK _ _ _ _ drawB (fun hx => ?_))); clear hx hK; simp -dsimp -implicitDefEqProofs only [go_sem, eq_self, ↓reduceIte]; (try simp (disch := omega) only [wrap_i64, wrap_u64, wrap_u32, wrap_u8]))) | omega))
  all_goals (refine C_ret rfl ?_; (refine rR ?_; apply zN))
  all_goals exact ⟨_, rfl, VLe.refl _⟩
theorem PreS.mono {s : St} {b b' : Nat} (h : PreS s b) (hb : b ≤ b') : PreS s b' :=
  h.of hb h.ng (by have := h.nk; omega) (by have := h.nu; omega) h.nt h.ns (fun g hg => ⟨h.p0 g hg, by have := h.p1 g hg; omega⟩) h.c0 h.tkr h.spr
theorem spoilS_nt (s : St) (w : Nat) : (spoilS s w).nt = s.nt := by
  unfold spoilS
  split <;> rfl
theorem spoilt_ex (Γ : List (Nat × List AVal)) {s : St} {b : Nat} (h : PreS s b) (hb : b ≤ 6) (w : Nat) (hw : w < 40) : ∃ s', PreS s' (b + 1) ∧ AM.Pure Tryz.prog Γ 23 [.agg s.cells, .lit (.int .i64 (w : Int))] (.agg (cellsZ s')) := by
  by_cases hF : Full s
  · refine ⟨spoilS s w, h.spoil hF hw, ?_⟩
    rw [cellsZ_pos (show 0 < (spoilS s w).nt by rw [spoilS_nt]; have := hF.nt; omega)]
    exact spoiltF s (h.small (by omega)) hF h.p0 w hw
  · refine ⟨s, h.mono (Nat.le_succ _), ?_⟩
    by_cases h0 : s.nt = 0
    · exact spoiltN0 s (h.small (by omega)) h0 w hw
    · rw [cellsZ_pos (by omega)]
      exact spoiltN s (h.small (by omega)) hF w hw
theorem toL_pre {s : St} {b : Nat} (h : PreS s b) : PreS (toL s).st b := by
  have e1 : (toL s).st.ng = s.ng := by simp [toL, LSt.st]
  have e2 : (toL s).st.nk = s.nk := by simp [toL, LSt.st]
  have e3 : (toL s).st.nu = s.nu := by simp [toL, LSt.st]
  have e4 : (toL s).st.nt = s.nt := by simp [toL, LSt.st]
  have e5 : (toL s).st.ns = s.ns := by simp [toL, LSt.st]
  refine h.of (Nat.le_refl _) (by rw [e1]; exact h.ng) (by rw [e2]; exact h.nk) (by rw [e3]; exact h.nu) (by rw [e4]; exact h.nt) (by rw [e5]; exact h.ns) (fun g hg => ?_) h.c0 (fun i => ?_) (fun g c => ?_)
  · rw [e5] at hg
    have e6 : (toL s).st.nsp g = s.nsp g := by
      show (((toL s).sl.getD g []).length) = _
      simp only [toL]
      rw [getD_rng hg]; simp
    rw [e6]
    exact ⟨h.p0 g hg, h.p1 g hg⟩
  · show TkR ((toL s).tl.getD i default)
    by_cases hi : i < s.nt
    · simp only [toL]
      rw [getD_rng hi]
      exact h.tkr i
    · rw [getD_out (by simp [toL]; omega)]
      exact ⟨Int.le_refl _, by decide, Int.le_refl _, by decide, Int.le_refl _⟩
  · show SpR (((toL s).sl.getD g []).getD c default)
    by_cases hg : g < s.ns
    · simp only [toL]
      rw [getD_rng hg]
      by_cases hc : c < s.nsp g
      · rw [getD_rng hc]
        exact h.spr g c
      · rw [getD_out (by simp; omega)]
        exact ⟨Int.le_refl _, by decide, Int.le_refl _, Int.le_refl _, by decide⟩
    · rw [getD_out (l := (toL s).sl) (by simp [toL]; omega)]
      exact ⟨Int.le_refl _, by show (0 : Int) ≤ 18446744073709551615; decide, Int.le_refl _, Int.le_refl _, by show (0 : Int) ≤ 18446744073709551615; decide⟩
theorem vle1 {a b : AVal} (h : VLe a b) : VLes [a] [b] := .cons h .nil
def chk0 (s : St) : List Flt := checkR (toL s).st
theorem checkC (Γ : List (Nat × List AVal)) {s : St} {b : Nat} (h : PreS s b) (hb : b ≤ 8) : AM.Pure Tryz.prog Γ 20 [.agg s.cells] (rows 3 ((chk0 s).map Flt.row)) := by
  have hp := toL_pre h
  exact Pure_arg (check_eq (toL s).st (hp.pre hb) hp.k) (vle1 (toL_le s))
theorem checkZ (Γ : List (Nat × List AVal)) {s : St} {b : Nat} (h : PreS s b) (hb : b ≤ 8) : AM.Pure Tryz.prog Γ 20 [.agg (cellsZ s)] (rows 3 ((chk0 s).map Flt.row)) := Pure_arg (checkC Γ h hb) (vle1 (cellsZ_le s))
theorem Rt0.pre {L : LSt} {n : Nat} (h : Rt0 L n) (h4 : n ≤ 4) (h6 : L.sl.length ≤ 6) (ht : L.tl.length ≤ 100) : PreS L.st 0 := by
  have htk : ∀ i, 0 ≤ (L.tsk i).v := fun i => by
    by_cases hi : i < L.tl.length
    · exact (h.tk i hi).v0
    · have e : L.tsk i = default := by unfold LSt.tsk; exact getD_out (by omega)
      rw [e]; exact Int.le_refl _
  have hsp : ∀ g c, 0 ≤ (L.sp g c).floor ∧ (L.sp g c).floor ≤ 18446744073709551615 := fun g c => by
    by_cases hg : g < L.sl.length
    · by_cases hc : c < n
      · exact (h.sp g c hg hc).2.2.2.2
      · have e : L.sp g c = default := by unfold LSt.sp; exact getD_out (by rw [h.rows g hg]; omega)
        rw [e]; exact ⟨Int.le_refl _, by decide⟩
    · have e : L.sp g c = default := by unfold LSt.sp; rw [getD_out (l := L.sl) (by omega)]; rfl
      rw [e]; exact ⟨Int.le_refl _, by decide⟩
  have hn1 := h.n1
  exact ⟨by show L.gl.length ≤ 6; rw [h.ng]; exact h6, by show L.kl.length ≤ 4 + 0; rw [h.nk]; omega, by show L.ul.length ≤ 4 + 0; rw [h.nu]; omega, ht, h6, fun g hg => by show 0 < (L.sl.getD g []).length; rw [h.rows g hg]; omega, fun g hg => by show (L.sl.getD g []).length ≤ 4 + 0; rw [h.rows g hg]; omega, h.cr0, h.kinds, htk, fun g c => (hsp g c).1, fun g c => (hsp g c).2⟩
end Go.Proofs.T
end
