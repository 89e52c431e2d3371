import Derived.Test.YtkiadljldlppbaaGreatDoorZAT
import Derived.ChangeMaps5
import Derived.Lay
import Derived.MakeChecks
import Derived.Carry
set_option linter.unusedVariables false
set_option linter.unusedSimpArgs false
section
namespace Go.Proofs.T
open Go Go.AM Go.Proofs
set_option maxRecDepth 20000
theorem w1_in {b n g0 k : Nat} {L : LSt} {R : List (List AVal)} {X : Blk} : ∀ id B, AM.look (w1H b n g0 L []) id = some B → AM.look [(b + 12, ⟨7, false, R⟩), (b + 11, ⟨1, false, cwR (b + 4) n L g0 L.sl.length⟩), (b + 4, ⟨3, true, slR L g0⟩), (b + 6, ⟨1, true, klR L⟩), (b + 8, ⟨1, true, ulR L⟩), (b + 10, ⟨8, true, tlR L⟩), (k, X)] id = some B := fun id B hB => by
  have hk := key_w (b := b) (n := n) (g0 := g0) (L := L) (H := []) (q := id) (.inl (by unfold keyB; rw [hB]; rfl))
  have hid : id ≠ b + 12 := by
    rcases hk with hk | hk
    · omega
    · simp [keyB, AM.look] at hk
  simp only [w1H, AM.look] at hB ⊢
  rw [if_neg (Ne.symm hid)]
  repeat' (split at hB; (· rename_i e; rw [if_pos e]; exact hB); (rename_i e; rw [if_neg e]))
  cases hB
structure OneC (n g0 k b : Nat) (L : LSt) (NC : List AVal) (a w : Int) : Prop where
  hrt : Rt L n
  hn1 : 1 ≤ n
  hn4 : n ≤ 4
  h6 : L.sl.length ≤ 6
  h40 : L.tl.length ≤ 40
  ht0 : 0 < L.tl.length
  hg0 : g0 < L.sl.length
  hk : k + 27 ≤ b
  hNl : NC.length = 13
  hNt : NC.take 13 = NC
  hNo : NC.all AM.one = true
  hNc : NC.all clean = true
  hNb : ∀ p : Nat → Bool, NC.all (bd0 p) = true
  hNd : List.drop 13 NC = []
  ha0 : 0 ≤ a
  ha1 : a ≤ 255
  hw0 : 0 ≤ w
  hw1 : w ≤ 255
attribute [local irreducible] putO del
set_option maxHeartbeats 8000000 in
theorem one_wA {n g0 k b nl : Nat} {L : LSt} {NC : List AVal} {G : Nat → List AVal} {a w : Int} (hC : OneC n g0 k b L NC a w) (hv2 : w.tmod 7 < 2) : AM.W Tryz.prog [] 251 k (cat (bodyOf Tryz.f5) [1, 0, 1, 1, 1]) (thenQ (AM.W Tryz.prog [] 251 k (cat (bodyOf Tryz.f5) [1, 1, 1, 1]) (retQ Tryz.prog Tryz.f5 fun x r1 x_1 => r1 = .lit (.bool true))) (retQ Tryz.prog Tryz.f5 fun x r1 x_1 => r1 = .lit (.bool true))) (b + 13) [(33, .lit (.bool false)), (10, .lit (.bool true)), (9, .ptr (b + 12) 0 0), (20, .lit (.bool false)), (8, .lit (.bool false)), (4, .ptr k 0 0), (0, .agg NC), (1, .rd 8 nl G), (2, .lit (.int .u8 a)), (3, .lit (.int .u8 w))] [(b + 12, ⟨7, false, [w1R b L]⟩), (b + 11, ⟨1, false, cwR (b + 4) n L g0 L.sl.length⟩), (b + 4, ⟨3, true, slR L g0⟩), (b + 6, ⟨1, true, klR L⟩), (b + 8, ⟨1, true, ulR L⟩), (b + 10, ⟨8, true, tlR L⟩), (k, ⟨13, true, [NC]⟩)] := by
  obtain ⟨hrt, hn1, hn4, h6, h40, ht0, hg0, hk, hNl, hNt, hNo, hNc, hNb, hNd, ha0, ha1, hw0, hw1⟩ := hC
  have h0 := hrt.r0
  have hkl : L.kl.length = n := h0.nk
  have hul : L.ul.length = n := h0.nu
  have hrow := h0.rows
  have hkz : ((L.kl.length : Int) = 0) = False := eq_false (by omega)
  obtain ⟨cp, hcp⟩ : ∃ cp : Nat, a.tmod (L.kl.length : Int) = (cp : Int) := ⟨(a.tmod (L.kl.length : Int)).toNat, by rw [Int.tmod_eq_emod_of_nonneg ha0]; have := Int.emod_nonneg a (b := (L.kl.length : Int)) (by omega); omega⟩
  have hcn : cp < n := by
    rw [Int.tmod_eq_emod_of_nonneg ha0] at hcp
    have := Int.emod_lt_of_pos a (b := (L.kl.length : Int)) (by omega)
    omega
  have e3 : IntKind.i64.wrap a = a := wrap_i64 (by omega) (by omega)
  have e4 : IntKind.i64.wrap (-1 - a) = -1 - a := wrap_i64 (by omega) (by omega)
  obtain ⟨v, hv⟩ : ∃ v, w.tmod 7 = v := ⟨_, rfl⟩
  have hv7 : 0 ≤ v ∧ v < 7 := by rw [Int.tmod_eq_emod_of_nonneg hw0] at hv; omega
  obtain ⟨p, hp⟩ : ∃ p, w.tmod 2 = p := ⟨_, rfl⟩
  have hp2 : p = 0 ∨ p = 1 := by rw [Int.tmod_eq_emod_of_nonneg hw0] at hp; omega
  have hto : (cp : Int).toNat = cp := Int.toNat_natCast cp
  have hpre : PreOk L.st := h0.preOk (by omega) (by omega)
  have hkin : Kinds L.st := h0.kinds
  have hA : v < 2 := by rw [← hv]; exact hv2
  rcases hp2 with rfl | rfl
  · obtain ⟨T, hT⟩ := small_text (in3 (r := 3) (.inl rfl) (show cp < 4 by omega))
    have hG := give1 (b := b) (n := n) (g0 := g0) (k := b + 14) (L := L) (M := L.setK cp (-1 - a)) (by omega) rfl hrow (hpre.of rfl (List.length_set ..) rfl rfl rfl fun _ => rfl) (Kinds.of h0.tk_all h0.sp_all) (one_clock hrt hcn (by omega)) (by simp only [w1R, LSt.setK, List.length_set] <;> rfl) (by rw [w1H, klR_setK] <;> rfl)
    have hX1 := texts1 (F := fun i => [[AVal.lit (.int .u8 3), .lit (.int .i64 (cp : Int)), .lit (.int .i64 0)]].getD i []) rfl hT
    have hX2 := texts1o (b + 14) (b + 15) (by omega) hT
    have hX3 := sameTexts1 (Γ := []) T (fun _ => [.lit (.string T)]) (fun i => [[AVal.lit (.string T)]].getD i []) rfl rfl
    have kp : Kp [0,1,2,3,4,8,9,10,11,12,13,14,15,16,17,18,20,33,48,60,90,102,105,106,107,138,142,143,144,145,159,189,194,207,222,233] (fun i => i - b) := kpI
    have uU := zA @hNl (zA @hNt (zA @hNo (zA @hNc (zA @hNb (zA @hNd (zA @apN (zA @hkz (zA @hcp (zA @e3 (zA @e4 (zA @hv (zA @hp @hto))))))))))))
    refine wlL ?_ <;> and_intros <;> first | exact hdT | (apply zM; (repeat intro ht); apply zM; (repeat intro hg); apply zM)
    refine dlL [.gen (.rd 3 1 (fun i => [[AVal.lit (.int .u8 (3)), .lit (.int .i64 ((cp : Int))), .lit (.int .i64 (0))]].getD i [])) (b + 14) ([(b + 11, ⟨1, false, cwR (b + 4) n L g0 L.sl.length⟩), (b + 4, ⟨3, true, slR L g0⟩), (b + 6, ⟨1, true, (klR L).set cp [.lit (.int .i64 (-1 - a))]⟩), (b + 8, ⟨1, true, ulR L⟩), (b + 10, ⟨8, true, tlR L⟩)]) [], .ret (.rd 1 1 (fun _ => [.lit (.string T)])), .gen (.rd 1 1 (fun i => [[AVal.lit (.string T)]].getD i [])) (b + 18) [(b + 14, ⟨3, true, [[.lit (.int .u8 (3)), .lit (.int .i64 ((cp : Int))), .lit (.int .i64 (0))]]⟩)] [(b + 14, ⟨3, true, [[.lit (.int .u8 (3)), .lit (.int .i64 ((cp : Int))), .lit (.int .i64 (0))]]⟩)], .ret (.lit (.bool true))] ?_ <;> and_intros <;> first | exact hdT | (apply zM; (repeat intro ht); apply zM; (repeat intro hg); apply zM)
    all_goals (try (first | exact hG | exact hX1 | exact hX2 | exact hX3 | exact cwR_bd (key2 (by omega))))
    refine wlL ?_ <;> and_intros <;> first | exact hdT | (apply zM; (repeat intro ht); apply zM; (repeat intro hg); apply zM)
    refine C_ret rfl ?_
    exact ⟨_, rfl, rfl⟩
  · have hks : ∀ y, ((klR L).set cp y)[cp]? = some y := fun y => by rw [List.getElem?_set_self (by rw [klR_len]; omega)]
    obtain ⟨T, hT⟩ := small_text (in3 (r := 13) (.inr (.inr rfl)) (show cp < 4 by omega))
    have hG := give1 (b := b) (n := n) (g0 := g0) (k := b + 14) (L := L) (M := (L.setK cp 0).setU cp 65536) (by omega) rfl hrow (hpre.of rfl (List.length_set ..) (List.length_set ..) rfl rfl fun _ => rfl) (Kinds.of h0.tk_all h0.sp_all) (one_cur hrt hcn) (by simp only [w1R, LSt.setK, LSt.setU, List.length_set] <;> rfl) (by rw [w1H, ulR_setU, show klR ((L.setK cp 0).setU cp 65536) = (klR L).set cp [.lit (.int .i64 0)] from klR_setK] <;> rfl)
    have hX1 := texts1 (F := fun i => [[AVal.lit (.int .u8 13), .lit (.int .i64 (cp : Int)), .lit (.int .i64 0)]].getD i []) rfl hT
    have hX2 := texts1o (b + 14) (b + 15) (by omega) hT
    have hX3 := sameTexts1 (Γ := []) T (fun _ => [.lit (.string T)]) (fun i => [[AVal.lit (.string T)]].getD i []) rfl rfl
    have kp : Kp [0,1,2,3,4,8,9,10,11,12,13,14,15,16,17,18,20,33,48,60,90,102,105,106,107,138,142,143,144,145,159,189,194,207,222,233] (fun i => i - b) := kpI
    have uU := zA @hNl (zA @hNt (zA @hNo (zA @hNc (zA @hNb (zA @hNd (zA @apN (zA @hkz (zA @hcp (zA @e3 (zA @e4 (zA @hv (zA @hp (zA @hto (zA @hks @ssN))))))))))))))
    refine wlL ?_ <;> and_intros <;> first | exact hdT | (apply zM; (repeat intro ht); apply zM; (repeat intro hg); apply zM)
    refine dlL [.gen (.rd 3 1 (fun i => [[AVal.lit (.int .u8 (13)), .lit (.int .i64 ((cp : Int))), .lit (.int .i64 (0))]].getD i [])) (b + 14) ([(b + 11, ⟨1, false, cwR (b + 4) n L g0 L.sl.length⟩), (b + 4, ⟨3, true, slR L g0⟩), (b + 6, ⟨1, true, (klR L).set cp [.lit (.int .i64 0)]⟩), (b + 8, ⟨1, true, (ulR L).set cp [.lit (.int .i64 65536)]⟩), (b + 10, ⟨8, true, tlR L⟩)]) [], .ret (.rd 1 1 (fun _ => [.lit (.string T)])), .gen (.rd 1 1 (fun i => [[AVal.lit (.string T)]].getD i [])) (b + 18) [(b + 14, ⟨3, true, [[.lit (.int .u8 (13)), .lit (.int .i64 ((cp : Int))), .lit (.int .i64 (0))]]⟩)] [(b + 14, ⟨3, true, [[.lit (.int .u8 (13)), .lit (.int .i64 ((cp : Int))), .lit (.int .i64 (0))]]⟩)], .ret (.lit (.bool true))] ?_ <;> and_intros <;> first | exact hdT | (apply zM; (repeat intro ht); apply zM; (repeat intro hg); apply zM)
    all_goals (try (first | exact hG | exact hX1 | exact hX2 | exact hX3 | exact cwR_bd (key2 (by omega))))
    refine wlL ?_ <;> and_intros <;> first | exact hdT | (apply zM; (repeat intro ht); apply zM; (repeat intro hg); apply zM)
    refine C_ret rfl ?_
    exact ⟨_, rfl, rfl⟩
set_option maxHeartbeats 8000000 in
theorem one_w2 {n g0 k b nl : Nat} {L : LSt} {NC : List AVal} {G : Nat → List AVal} {a w : Int} (hC : OneC n g0 k b L NC a w) (hv2 : w.tmod 7 = 2) : AM.W Tryz.prog [] 251 k (cat (bodyOf Tryz.f5) [1, 0, 1, 1, 1]) (thenQ (AM.W Tryz.prog [] 251 k (cat (bodyOf Tryz.f5) [1, 1, 1, 1]) (retQ Tryz.prog Tryz.f5 fun x r1 x_1 => r1 = .lit (.bool true))) (retQ Tryz.prog Tryz.f5 fun x r1 x_1 => r1 = .lit (.bool true))) (b + 13) [(33, .lit (.bool false)), (10, .lit (.bool true)), (9, .ptr (b + 12) 0 0), (20, .lit (.bool false)), (8, .lit (.bool false)), (4, .ptr k 0 0), (0, .agg NC), (1, .rd 8 nl G), (2, .lit (.int .u8 a)), (3, .lit (.int .u8 w))] [(b + 12, ⟨7, false, [w1R b L]⟩), (b + 11, ⟨1, false, cwR (b + 4) n L g0 L.sl.length⟩), (b + 4, ⟨3, true, slR L g0⟩), (b + 6, ⟨1, true, klR L⟩), (b + 8, ⟨1, true, ulR L⟩), (b + 10, ⟨8, true, tlR L⟩), (k, ⟨13, true, [NC]⟩)] := by
  obtain ⟨hrt, hn1, hn4, h6, h40, ht0, hg0, hk, hNl, hNt, hNo, hNc, hNb, hNd, ha0, ha1, hw0, hw1⟩ := hC
  have h0 := hrt.r0
  have hkl : L.kl.length = n := h0.nk
  have hul : L.ul.length = n := h0.nu
  have hrow := h0.rows
  have hkz : ((L.kl.length : Int) = 0) = False := eq_false (by omega)
  obtain ⟨cp, hcp⟩ : ∃ cp : Nat, a.tmod (L.kl.length : Int) = (cp : Int) := ⟨(a.tmod (L.kl.length : Int)).toNat, by rw [Int.tmod_eq_emod_of_nonneg ha0]; have := Int.emod_nonneg a (b := (L.kl.length : Int)) (by omega); omega⟩
  have hcn : cp < n := by
    rw [Int.tmod_eq_emod_of_nonneg ha0] at hcp
    have := Int.emod_lt_of_pos a (b := (L.kl.length : Int)) (by omega)
    omega
  have e3 : IntKind.i64.wrap a = a := wrap_i64 (by omega) (by omega)
  have e4 : IntKind.i64.wrap (-1 - a) = -1 - a := wrap_i64 (by omega) (by omega)
  obtain ⟨v, hv⟩ : ∃ v, w.tmod 7 = v := ⟨_, rfl⟩
  have hv7 : 0 ≤ v ∧ v < 7 := by rw [Int.tmod_eq_emod_of_nonneg hw0] at hv; omega
  obtain ⟨p, hp⟩ : ∃ p, w.tmod 2 = p := ⟨_, rfl⟩
  have hp2 : p = 0 ∨ p = 1 := by rw [Int.tmod_eq_emod_of_nonneg hw0] at hp; omega
  have hto : (cp : Int).toNat = cp := Int.toNat_natCast cp
  have hpre : PreOk L.st := h0.preOk (by omega) (by omega)
  have hkin : Kinds L.st := h0.kinds
  obtain rfl : v = 2 := by rw [← hv]; exact hv2
  have hA : ¬ (2 : Int) < 2 := by decide
  have htz : ((L.tl.length : Int) = 0) = False := eq_false (by omega)
  obtain ⟨ti, hti⟩ : ∃ ti : Nat, a.tmod (L.tl.length : Int) = (ti : Int) := ⟨(a.tmod (L.tl.length : Int)).toNat, by rw [Int.tmod_eq_emod_of_nonneg ha0]; have := Int.emod_nonneg a (b := (L.tl.length : Int)) (by omega); omega⟩
  have htn : ti < L.tl.length := by
    rw [Int.tmod_eq_emod_of_nonneg ha0] at hti
    have := Int.emod_lt_of_pos a (b := (L.tl.length : Int)) (by omega)
    omega
  have hT0 := h0.tk ti htn
  have hto2 : (ti : Int).toNat = ti := Int.toNat_natCast ti
  have hk64 : ((L.kl.length : Int) = 64) = False := eq_false (by omega)
  have hg1 : 0 ≤ (L.tsk ti).group ∧ (L.tsk ti).group < L.sl.length := ⟨hT0.g0, hT0.g1⟩
  have hcu0 := hT0.c0
  have hcu1 := hT0.c1
  have hsh1 : IntKind.u64.wrap (1 * 2 ^ min L.kl.length 64) = ((2 ^ L.kl.length : Nat) : Int) := shl_one (n := L.kl.length) (by omega)
  have hsh2 : IntKind.u64.wrap (1 * 2 ^ min (L.tsk ti).cpu.toNat 64) = ((2 ^ (L.tsk ti).cpu.toNat : Nat) : Int) := shl_one (n := (L.tsk ti).cpu.toNat) (by omega)
  have hne1 : ((L.kl.length : Int) < 0) = False := eq_false (by omega)
  have hne2 : ((L.tsk ti).cpu < 0) = False := eq_false (by omega)
  obtain ⟨y, hy, y0, y1, yb⟩ := mask_or (x := (L.tsk ti).mask) (n := L.kl.length) hT0.m0 hT0.m1 (by omega)
  obtain ⟨z, hz, z0, z1, zb⟩ := mask_not (x := (L.tsk ti).mask) (n := (L.tsk ti).cpu.toNat) hT0.m0 hT0.m1 (by omega)
  have hvA : ((2 : Int) < 2) = False := eq_false hA
  have htw := hT0.e
  have hwt : 1 ≤ (L.tsk ti).weight ∧ (L.tsk ti).weight ≤ 65536 := by simp only [ent, decide_eq_true_eq] at htw; omega
  have hw32 : IntKind.u32.wrap (L.tsk ti).weight = (L.tsk ti).weight := wrap_u32 (by omega) (by omega)
  have yb' : ∀ c, bitB y c = (bitB (L.tsk ti).mask c || decide (c = n)) := by rw [← hkl]; exact yb
  obtain ⟨T, hT⟩ := small_text (in8 (r := 8) (.inl rfl) (show ti < 40 by omega))
  have hkm : Kinds (L.setT ti { L.tsk ti with mask := y }).st := Kinds.of (fun j => by
    show 0 ≤ ((L.setT ti _).tsk j).mask ∧ ((L.setT ti _).tsk j).mask < _ ∧ ((L.setT ti _).tsk j).v ≤ _ ∧ 0 ≤ ((L.setT ti _).tsk j).r
    rw [setT_tsk htn]
    split
    · exact ⟨by first | assumption | exact hT0.m0, by first | assumption | exact hT0.m1, hT0.v1, by first | exact hT0.r0 | (show 0 ≤ (L.tsk ti).weight; omega)⟩
    · exact h0.tk_all j) h0.sp_all
  have hG := give1 (b := b) (n := n) (g0 := g0) (k := b + 14) (L := L) (M := L.setT ti { L.tsk ti with mask := y }) (by omega) rfl hrow (hpre.of rfl rfl rfl setT_len rfl fun _ => rfl) hkm (one_wide hrt htn (by omega) yb') (by simp only [w1R, setT_len] <;> rfl) (by rw [w1H, tlR_setT] <;> rfl)
  have hX1 := texts1 (F := fun i => [[AVal.lit (.int .u8 8), .lit (.int .i64 (ti : Int)), .lit (.int .i64 0)]].getD i []) rfl hT
  have hX2 := texts1o (b + 14) (b + 15) (by omega) hT
  have hX3 := sameTexts1 (Γ := []) T (fun _ => [.lit (.string T)]) (fun i => [[AVal.lit (.string T)]].getD i []) rfl rfl
  have kp : Kp [0,1,2,3,4,8,9,10,11,12,13,14,15,16,17,18,20,33,48,60,90,102,105,106,107,138,142,143,144,145,159,189,194,207,222,233] (fun i => i - b) := kpI
  have uU := zA @hNl (zA @hNt (zA @hNo (zA @hNc (zA @hNb (zA @hNd (zA @apN (zA @hkz (zA @hcp (zA @e3 (zA @e4 (zA @hv (zA @hp (zA @hto (zA @htz (zA @hti (zA @hto2 (zA @hk64 (zA @hsh1 (zA @hsh2 (zA @hne1 (zA @hne2 (zA @hy (zA @hz (zA @hvA @hw32))))))))))))))))))))))))
  refine wlL ?_ <;> and_intros <;> first | exact hdT | (apply zM; (repeat intro ht); apply zM; (repeat intro hg); apply zM)
  refine dlL [.gen (.rd 3 1 (fun i => [[AVal.lit (.int .u8 (8)), .lit (.int .i64 ((ti : Int))), .lit (.int .i64 (0))]].getD i [])) (b + 14) ([(b + 11, ⟨1, false, cwR (b + 4) n L g0 L.sl.length⟩), (b + 4, ⟨3, true, slR L g0⟩), (b + 6, ⟨1, true, klR L⟩), (b + 8, ⟨1, true, ulR L⟩), (b + 10, ⟨8, true, (tlR L).set ti [.lit (.int .i64 (L.tsk ti).id), .lit (.int .i64 (L.tsk ti).group), .lit (.int .i64 (L.tsk ti).weight), .lit (.int .i64 (L.tsk ti).cpu), .lit (.int .u64 (y)), .lit (.bool (L.tsk ti).ready), .lit (.int .u64 (L.tsk ti).v), .lit (.int .u32 ((L.tsk ti).r))]⟩)]) [], .ret (.rd 1 1 (fun _ => [.lit (.string T)])), .gen (.rd 1 1 (fun i => [[AVal.lit (.string T)]].getD i [])) (b + 18) [(b + 14, ⟨3, true, [[.lit (.int .u8 (8)), .lit (.int .i64 ((ti : Int))), .lit (.int .i64 (0))]]⟩)] [(b + 14, ⟨3, true, [[.lit (.int .u8 (8)), .lit (.int .i64 ((ti : Int))), .lit (.int .i64 (0))]]⟩)], .ret (.lit (.bool true))] ?_ <;> and_intros <;> first | exact hdT | (apply zM; (repeat intro ht); apply zM; (repeat intro hg); apply zM)
  all_goals (try (first | exact hG | exact hX1 | exact hX2 | exact hX3 | exact cwR_bd (key2 (by omega))))
  refine wlL ?_ <;> and_intros <;> first | exact hdT | (apply zM; (repeat intro ht); apply zM; (repeat intro hg); apply zM)
  refine C_ret rfl ?_
  exact ⟨_, rfl, rfl⟩
set_option maxHeartbeats 8000000 in
theorem one_w3 {n g0 k b nl : Nat} {L : LSt} {NC : List AVal} {G : Nat → List AVal} {a w : Int} (hC : OneC n g0 k b L NC a w) (hv2 : w.tmod 7 = 3) : AM.W Tryz.prog [] 251 k (cat (bodyOf Tryz.f5) [1, 0, 1, 1, 1]) (thenQ (AM.W Tryz.prog [] 251 k (cat (bodyOf Tryz.f5) [1, 1, 1, 1]) (retQ Tryz.prog Tryz.f5 fun x r1 x_1 => r1 = .lit (.bool true))) (retQ Tryz.prog Tryz.f5 fun x r1 x_1 => r1 = .lit (.bool true))) (b + 13) [(33, .lit (.bool false)), (10, .lit (.bool true)), (9, .ptr (b + 12) 0 0), (20, .lit (.bool false)), (8, .lit (.bool false)), (4, .ptr k 0 0), (0, .agg NC), (1, .rd 8 nl G), (2, .lit (.int .u8 a)), (3, .lit (.int .u8 w))] [(b + 12, ⟨7, false, [w1R b L]⟩), (b + 11, ⟨1, false, cwR (b + 4) n L g0 L.sl.length⟩), (b + 4, ⟨3, true, slR L g0⟩), (b + 6, ⟨1, true, klR L⟩), (b + 8, ⟨1, true, ulR L⟩), (b + 10, ⟨8, true, tlR L⟩), (k, ⟨13, true, [NC]⟩)] := by
  obtain ⟨hrt, hn1, hn4, h6, h40, ht0, hg0, hk, hNl, hNt, hNo, hNc, hNb, hNd, ha0, ha1, hw0, hw1⟩ := hC
  have h0 := hrt.r0
  have hkl : L.kl.length = n := h0.nk
  have hul : L.ul.length = n := h0.nu
  have hrow := h0.rows
  have hkz : ((L.kl.length : Int) = 0) = False := eq_false (by omega)
  obtain ⟨cp, hcp⟩ : ∃ cp : Nat, a.tmod (L.kl.length : Int) = (cp : Int) := ⟨(a.tmod (L.kl.length : Int)).toNat, by rw [Int.tmod_eq_emod_of_nonneg ha0]; have := Int.emod_nonneg a (b := (L.kl.length : Int)) (by omega); omega⟩
  have hcn : cp < n := by
    rw [Int.tmod_eq_emod_of_nonneg ha0] at hcp
    have := Int.emod_lt_of_pos a (b := (L.kl.length : Int)) (by omega)
    omega
  have e3 : IntKind.i64.wrap a = a := wrap_i64 (by omega) (by omega)
  have e4 : IntKind.i64.wrap (-1 - a) = -1 - a := wrap_i64 (by omega) (by omega)
  obtain ⟨v, hv⟩ : ∃ v, w.tmod 7 = v := ⟨_, rfl⟩
  have hv7 : 0 ≤ v ∧ v < 7 := by rw [Int.tmod_eq_emod_of_nonneg hw0] at hv; omega
  obtain ⟨p, hp⟩ : ∃ p, w.tmod 2 = p := ⟨_, rfl⟩
  have hp2 : p = 0 ∨ p = 1 := by rw [Int.tmod_eq_emod_of_nonneg hw0] at hp; omega
  have hto : (cp : Int).toNat = cp := Int.toNat_natCast cp
  have hpre : PreOk L.st := h0.preOk (by omega) (by omega)
  have hkin : Kinds L.st := h0.kinds
  obtain rfl : v = 3 := by rw [← hv]; exact hv2
  have hA : ¬ (3 : Int) < 2 := by decide
  have htz : ((L.tl.length : Int) = 0) = False := eq_false (by omega)
  obtain ⟨ti, hti⟩ : ∃ ti : Nat, a.tmod (L.tl.length : Int) = (ti : Int) := ⟨(a.tmod (L.tl.length : Int)).toNat, by rw [Int.tmod_eq_emod_of_nonneg ha0]; have := Int.emod_nonneg a (b := (L.tl.length : Int)) (by omega); omega⟩
  have htn : ti < L.tl.length := by
    rw [Int.tmod_eq_emod_of_nonneg ha0] at hti
    have := Int.emod_lt_of_pos a (b := (L.tl.length : Int)) (by omega)
    omega
  have hT0 := h0.tk ti htn
  have hto2 : (ti : Int).toNat = ti := Int.toNat_natCast ti
  have hk64 : ((L.kl.length : Int) = 64) = False := eq_false (by omega)
  have hg1 : 0 ≤ (L.tsk ti).group ∧ (L.tsk ti).group < L.sl.length := ⟨hT0.g0, hT0.g1⟩
  have hcu0 := hT0.c0
  have hcu1 := hT0.c1
  have hsh1 : IntKind.u64.wrap (1 * 2 ^ min L.kl.length 64) = ((2 ^ L.kl.length : Nat) : Int) := shl_one (n := L.kl.length) (by omega)
  have hsh2 : IntKind.u64.wrap (1 * 2 ^ min (L.tsk ti).cpu.toNat 64) = ((2 ^ (L.tsk ti).cpu.toNat : Nat) : Int) := shl_one (n := (L.tsk ti).cpu.toNat) (by omega)
  have hne1 : ((L.kl.length : Int) < 0) = False := eq_false (by omega)
  have hne2 : ((L.tsk ti).cpu < 0) = False := eq_false (by omega)
  obtain ⟨y, hy, y0, y1, yb⟩ := mask_or (x := (L.tsk ti).mask) (n := L.kl.length) hT0.m0 hT0.m1 (by omega)
  obtain ⟨z, hz, z0, z1, zb⟩ := mask_not (x := (L.tsk ti).mask) (n := (L.tsk ti).cpu.toNat) hT0.m0 hT0.m1 (by omega)
  have hvA : ((3 : Int) < 2) = False := eq_false hA
  have htw := hT0.e
  have hwt : 1 ≤ (L.tsk ti).weight ∧ (L.tsk ti).weight ≤ 65536 := by simp only [ent, decide_eq_true_eq] at htw; omega
  have hw32 : IntKind.u32.wrap (L.tsk ti).weight = (L.tsk ti).weight := wrap_u32 (by omega) (by omega)
  have yb' : ∀ c, bitB y c = (bitB (L.tsk ti).mask c || decide (c = n)) := by rw [← hkl]; exact yb
  obtain ⟨T, hT⟩ := small_text (in8 (r := 9) (.inr (.inl rfl)) (show ti < 40 by omega))
  have hkm : Kinds (L.setT ti { L.tsk ti with mask := z }).st := Kinds.of (fun j => by
    show 0 ≤ ((L.setT ti _).tsk j).mask ∧ ((L.setT ti _).tsk j).mask < _ ∧ ((L.setT ti _).tsk j).v ≤ _ ∧ 0 ≤ ((L.setT ti _).tsk j).r
    rw [setT_tsk htn]
    split
    · exact ⟨by first | assumption | exact hT0.m0, by first | assumption | exact hT0.m1, hT0.v1, by first | exact hT0.r0 | (show 0 ≤ (L.tsk ti).weight; omega)⟩
    · exact h0.tk_all j) h0.sp_all
  have hG := give1 (b := b) (n := n) (g0 := g0) (k := b + 14) (L := L) (M := L.setT ti { L.tsk ti with mask := z }) (by omega) rfl hrow (hpre.of rfl rfl rfl setT_len rfl fun _ => rfl) hkm (one_place hrt htn zb) (by simp only [w1R, setT_len] <;> rfl) (by rw [w1H, tlR_setT] <;> rfl)
  have hX1 := texts1 (F := fun i => [[AVal.lit (.int .u8 9), .lit (.int .i64 (ti : Int)), .lit (.int .i64 0)]].getD i []) rfl hT
  have hX2 := texts1o (b + 14) (b + 15) (by omega) hT
  have hX3 := sameTexts1 (Γ := []) T (fun _ => [.lit (.string T)]) (fun i => [[AVal.lit (.string T)]].getD i []) rfl rfl
  have kp : Kp [0,1,2,3,4,8,9,10,11,12,13,14,15,16,17,18,20,33,48,60,90,102,105,106,107,138,142,143,144,145,159,189,194,207,222,233] (fun i => i - b) := kpI
  have uU := zA @hNl (zA @hNt (zA @hNo (zA @hNc (zA @hNb (zA @hNd (zA @apN (zA @hkz (zA @hcp (zA @e3 (zA @e4 (zA @hv (zA @hp (zA @hto (zA @htz (zA @hti (zA @hto2 (zA @hk64 (zA @hsh1 (zA @hsh2 (zA @hne1 (zA @hne2 (zA @hy (zA @hz (zA @hvA @hw32))))))))))))))))))))))))
  refine wlL ?_ <;> and_intros <;> first | exact hdT | (apply zM; (repeat intro ht); apply zM; (repeat intro hg); apply zM)
  refine dlL [.gen (.rd 3 1 (fun i => [[AVal.lit (.int .u8 (9)), .lit (.int .i64 ((ti : Int))), .lit (.int .i64 (0))]].getD i [])) (b + 14) ([(b + 11, ⟨1, false, cwR (b + 4) n L g0 L.sl.length⟩), (b + 4, ⟨3, true, slR L g0⟩), (b + 6, ⟨1, true, klR L⟩), (b + 8, ⟨1, true, ulR L⟩), (b + 10, ⟨8, true, (tlR L).set ti [.lit (.int .i64 (L.tsk ti).id), .lit (.int .i64 (L.tsk ti).group), .lit (.int .i64 (L.tsk ti).weight), .lit (.int .i64 (L.tsk ti).cpu), .lit (.int .u64 (z)), .lit (.bool (L.tsk ti).ready), .lit (.int .u64 (L.tsk ti).v), .lit (.int .u32 ((L.tsk ti).r))]⟩)]) [], .ret (.rd 1 1 (fun _ => [.lit (.string T)])), .gen (.rd 1 1 (fun i => [[AVal.lit (.string T)]].getD i [])) (b + 18) [(b + 14, ⟨3, true, [[.lit (.int .u8 (9)), .lit (.int .i64 ((ti : Int))), .lit (.int .i64 (0))]]⟩)] [(b + 14, ⟨3, true, [[.lit (.int .u8 (9)), .lit (.int .i64 ((ti : Int))), .lit (.int .i64 (0))]]⟩)], .ret (.lit (.bool true))] ?_ <;> and_intros <;> first | exact hdT | (apply zM; (repeat intro ht); apply zM; (repeat intro hg); apply zM)
  all_goals (try (first | exact hG | exact hX1 | exact hX2 | exact hX3 | exact cwR_bd (key2 (by omega))))
  refine wlL ?_ <;> and_intros <;> first | exact hdT | (apply zM; (repeat intro ht); apply zM; (repeat intro hg); apply zM)
  refine C_ret rfl ?_
  exact ⟨_, rfl, rfl⟩
set_option maxHeartbeats 8000000 in
theorem one_w4 {n g0 k b nl : Nat} {L : LSt} {NC : List AVal} {G : Nat → List AVal} {a w : Int} (hC : OneC n g0 k b L NC a w) (hv2 : w.tmod 7 = 4) : AM.W Tryz.prog [] 251 k (cat (bodyOf Tryz.f5) [1, 0, 1, 1, 1]) (thenQ (AM.W Tryz.prog [] 251 k (cat (bodyOf Tryz.f5) [1, 1, 1, 1]) (retQ Tryz.prog Tryz.f5 fun x r1 x_1 => r1 = .lit (.bool true))) (retQ Tryz.prog Tryz.f5 fun x r1 x_1 => r1 = .lit (.bool true))) (b + 13) [(33, .lit (.bool false)), (10, .lit (.bool true)), (9, .ptr (b + 12) 0 0), (20, .lit (.bool false)), (8, .lit (.bool false)), (4, .ptr k 0 0), (0, .agg NC), (1, .rd 8 nl G), (2, .lit (.int .u8 a)), (3, .lit (.int .u8 w))] [(b + 12, ⟨7, false, [w1R b L]⟩), (b + 11, ⟨1, false, cwR (b + 4) n L g0 L.sl.length⟩), (b + 4, ⟨3, true, slR L g0⟩), (b + 6, ⟨1, true, klR L⟩), (b + 8, ⟨1, true, ulR L⟩), (b + 10, ⟨8, true, tlR L⟩), (k, ⟨13, true, [NC]⟩)] := by
  obtain ⟨hrt, hn1, hn4, h6, h40, ht0, hg0, hk, hNl, hNt, hNo, hNc, hNb, hNd, ha0, ha1, hw0, hw1⟩ := hC
  have h0 := hrt.r0
  have hkl : L.kl.length = n := h0.nk
  have hul : L.ul.length = n := h0.nu
  have hrow := h0.rows
  have hkz : ((L.kl.length : Int) = 0) = False := eq_false (by omega)
  obtain ⟨cp, hcp⟩ : ∃ cp : Nat, a.tmod (L.kl.length : Int) = (cp : Int) := ⟨(a.tmod (L.kl.length : Int)).toNat, by rw [Int.tmod_eq_emod_of_nonneg ha0]; have := Int.emod_nonneg a (b := (L.kl.length : Int)) (by omega); omega⟩
  have hcn : cp < n := by
    rw [Int.tmod_eq_emod_of_nonneg ha0] at hcp
    have := Int.emod_lt_of_pos a (b := (L.kl.length : Int)) (by omega)
    omega
  have e3 : IntKind.i64.wrap a = a := wrap_i64 (by omega) (by omega)
  have e4 : IntKind.i64.wrap (-1 - a) = -1 - a := wrap_i64 (by omega) (by omega)
  obtain ⟨v, hv⟩ : ∃ v, w.tmod 7 = v := ⟨_, rfl⟩
  have hv7 : 0 ≤ v ∧ v < 7 := by rw [Int.tmod_eq_emod_of_nonneg hw0] at hv; omega
  obtain ⟨p, hp⟩ : ∃ p, w.tmod 2 = p := ⟨_, rfl⟩
  have hp2 : p = 0 ∨ p = 1 := by rw [Int.tmod_eq_emod_of_nonneg hw0] at hp; omega
  have hto : (cp : Int).toNat = cp := Int.toNat_natCast cp
  have hpre : PreOk L.st := h0.preOk (by omega) (by omega)
  have hkin : Kinds L.st := h0.kinds
  obtain rfl : v = 4 := by rw [← hv]; exact hv2
  have hA : ¬ (4 : Int) < 2 := by decide
  have htz : ((L.tl.length : Int) = 0) = False := eq_false (by omega)
  obtain ⟨ti, hti⟩ : ∃ ti : Nat, a.tmod (L.tl.length : Int) = (ti : Int) := ⟨(a.tmod (L.tl.length : Int)).toNat, by rw [Int.tmod_eq_emod_of_nonneg ha0]; have := Int.emod_nonneg a (b := (L.tl.length : Int)) (by omega); omega⟩
  have htn : ti < L.tl.length := by
    rw [Int.tmod_eq_emod_of_nonneg ha0] at hti
    have := Int.emod_lt_of_pos a (b := (L.tl.length : Int)) (by omega)
    omega
  have hT0 := h0.tk ti htn
  have hto2 : (ti : Int).toNat = ti := Int.toNat_natCast ti
  have hk64 : ((L.kl.length : Int) = 64) = False := eq_false (by omega)
  have hg1 : 0 ≤ (L.tsk ti).group ∧ (L.tsk ti).group < L.sl.length := ⟨hT0.g0, hT0.g1⟩
  have hcu0 := hT0.c0
  have hcu1 := hT0.c1
  have hsh1 : IntKind.u64.wrap (1 * 2 ^ min L.kl.length 64) = ((2 ^ L.kl.length : Nat) : Int) := shl_one (n := L.kl.length) (by omega)
  have hsh2 : IntKind.u64.wrap (1 * 2 ^ min (L.tsk ti).cpu.toNat 64) = ((2 ^ (L.tsk ti).cpu.toNat : Nat) : Int) := shl_one (n := (L.tsk ti).cpu.toNat) (by omega)
  have hne1 : ((L.kl.length : Int) < 0) = False := eq_false (by omega)
  have hne2 : ((L.tsk ti).cpu < 0) = False := eq_false (by omega)
  obtain ⟨y, hy, y0, y1, yb⟩ := mask_or (x := (L.tsk ti).mask) (n := L.kl.length) hT0.m0 hT0.m1 (by omega)
  obtain ⟨z, hz, z0, z1, zb⟩ := mask_not (x := (L.tsk ti).mask) (n := (L.tsk ti).cpu.toNat) hT0.m0 hT0.m1 (by omega)
  have hvA : ((4 : Int) < 2) = False := eq_false hA
  have htw := hT0.e
  have hwt : 1 ≤ (L.tsk ti).weight ∧ (L.tsk ti).weight ≤ 65536 := by simp only [ent, decide_eq_true_eq] at htw; omega
  have hw32 : IntKind.u32.wrap (L.tsk ti).weight = (L.tsk ti).weight := wrap_u32 (by omega) (by omega)
  have yb' : ∀ c, bitB y c = (bitB (L.tsk ti).mask c || decide (c = n)) := by rw [← hkl]; exact yb
  obtain ⟨T, hT⟩ := small_text (in8 (r := 10) (.inr (.inr rfl)) (show ti < 40 by omega))
  have hkm : Kinds (L.setT ti { L.tsk ti with r := (L.tsk ti).weight }).st := Kinds.of (fun j => by
    show 0 ≤ ((L.setT ti _).tsk j).mask ∧ ((L.setT ti _).tsk j).mask < _ ∧ ((L.setT ti _).tsk j).v ≤ _ ∧ 0 ≤ ((L.setT ti _).tsk j).r
    rw [setT_tsk htn]
    split
    · exact ⟨by first | assumption | exact hT0.m0, by first | assumption | exact hT0.m1, hT0.v1, by first | exact hT0.r0 | (show 0 ≤ (L.tsk ti).weight; omega)⟩
    · exact h0.tk_all j) h0.sp_all
  have hG := give1 (b := b) (n := n) (g0 := g0) (k := b + 14) (L := L) (M := L.setT ti { L.tsk ti with r := (L.tsk ti).weight }) (by omega) rfl hrow (hpre.of rfl rfl rfl setT_len rfl fun _ => rfl) hkm (one_rest hrt htn) (by simp only [w1R, setT_len] <;> rfl) (by rw [w1H, tlR_setT] <;> rfl)
  have hX1 := texts1 (F := fun i => [[AVal.lit (.int .u8 10), .lit (.int .i64 (ti : Int)), .lit (.int .i64 0)]].getD i []) rfl hT
  have hX2 := texts1o (b + 14) (b + 15) (by omega) hT
  have hX3 := sameTexts1 (Γ := []) T (fun _ => [.lit (.string T)]) (fun i => [[AVal.lit (.string T)]].getD i []) rfl rfl
  have kp : Kp [0,1,2,3,4,8,9,10,11,12,13,14,15,16,17,18,20,33,48,60,90,102,105,106,107,138,142,143,144,145,159,189,194,207,222,233] (fun i => i - b) := kpI
  have uU := zA @hNl (zA @hNt (zA @hNo (zA @hNc (zA @hNb (zA @hNd (zA @apN (zA @hkz (zA @hcp (zA @e3 (zA @e4 (zA @hv (zA @hp (zA @hto (zA @htz (zA @hti (zA @hto2 (zA @hk64 (zA @hsh1 (zA @hsh2 (zA @hne1 (zA @hne2 (zA @hy (zA @hz (zA @hvA @hw32))))))))))))))))))))))))
  refine wlL ?_ <;> and_intros <;> first | exact hdT | (apply zM; (repeat intro ht); apply zM; (repeat intro hg); apply zM)
  refine dlL [.gen (.rd 3 1 (fun i => [[AVal.lit (.int .u8 (10)), .lit (.int .i64 ((ti : Int))), .lit (.int .i64 (0))]].getD i [])) (b + 14) ([(b + 11, ⟨1, false, cwR (b + 4) n L g0 L.sl.length⟩), (b + 4, ⟨3, true, slR L g0⟩), (b + 6, ⟨1, true, klR L⟩), (b + 8, ⟨1, true, ulR L⟩), (b + 10, ⟨8, true, (tlR L).set ti [.lit (.int .i64 (L.tsk ti).id), .lit (.int .i64 (L.tsk ti).group), .lit (.int .i64 (L.tsk ti).weight), .lit (.int .i64 (L.tsk ti).cpu), .lit (.int .u64 ((L.tsk ti).mask)), .lit (.bool (L.tsk ti).ready), .lit (.int .u64 (L.tsk ti).v), .lit (.int .u32 ((L.tsk ti).weight))]⟩)]) [], .ret (.rd 1 1 (fun _ => [.lit (.string T)])), .gen (.rd 1 1 (fun i => [[AVal.lit (.string T)]].getD i [])) (b + 18) [(b + 14, ⟨3, true, [[.lit (.int .u8 (10)), .lit (.int .i64 ((ti : Int))), .lit (.int .i64 (0))]]⟩)] [(b + 14, ⟨3, true, [[.lit (.int .u8 (10)), .lit (.int .i64 ((ti : Int))), .lit (.int .i64 (0))]]⟩)], .ret (.lit (.bool true))] ?_ <;> and_intros <;> first | exact hdT | (apply zM; (repeat intro ht); apply zM; (repeat intro hg); apply zM)
  all_goals (try (first | exact hG | exact hX1 | exact hX2 | exact hX3 | exact cwR_bd (key2 (by omega))))
  refine wlL ?_ <;> and_intros <;> first | exact hdT | (apply zM; (repeat intro ht); apply zM; (repeat intro hg); apply zM)
  refine C_ret rfl ?_
  exact ⟨_, rfl, rfl⟩
set_option maxHeartbeats 8000000 in
theorem one_w5 {n g0 k b nl : Nat} {L : LSt} {NC : List AVal} {G : Nat → List AVal} {a w : Int} (hC : OneC n g0 k b L NC a w) (hv2 : w.tmod 7 = 5) (hg5 : g0 = 0) : AM.W Tryz.prog [] 251 k (cat (bodyOf Tryz.f5) [1, 0, 1, 1, 1]) (thenQ (AM.W Tryz.prog [] 251 k (cat (bodyOf Tryz.f5) [1, 1, 1, 1]) (retQ Tryz.prog Tryz.f5 fun x r1 x_1 => r1 = .lit (.bool true))) (retQ Tryz.prog Tryz.f5 fun x r1 x_1 => r1 = .lit (.bool true))) (b + 13) [(33, .lit (.bool false)), (10, .lit (.bool true)), (9, .ptr (b + 12) 0 0), (20, .lit (.bool false)), (8, .lit (.bool false)), (4, .ptr k 0 0), (0, .agg NC), (1, .rd 8 nl G), (2, .lit (.int .u8 a)), (3, .lit (.int .u8 w))] [(b + 12, ⟨7, false, [w1R b L]⟩), (b + 11, ⟨1, false, cwR (b + 4) n L g0 L.sl.length⟩), (b + 4, ⟨3, true, slR L g0⟩), (b + 6, ⟨1, true, klR L⟩), (b + 8, ⟨1, true, ulR L⟩), (b + 10, ⟨8, true, tlR L⟩), (k, ⟨13, true, [NC]⟩)] := by
  obtain ⟨hrt, hn1, hn4, h6, h40, ht0, hg0, hk, hNl, hNt, hNo, hNc, hNb, hNd, ha0, ha1, hw0, hw1⟩ := hC
  have h0 := hrt.r0
  have hkl : L.kl.length = n := h0.nk
  have hul : L.ul.length = n := h0.nu
  have hrow := h0.rows
  have hkz : ((L.kl.length : Int) = 0) = False := eq_false (by omega)
  obtain ⟨cp, hcp⟩ : ∃ cp : Nat, a.tmod (L.kl.length : Int) = (cp : Int) := ⟨(a.tmod (L.kl.length : Int)).toNat, by rw [Int.tmod_eq_emod_of_nonneg ha0]; have := Int.emod_nonneg a (b := (L.kl.length : Int)) (by omega); omega⟩
  have hcn : cp < n := by
    rw [Int.tmod_eq_emod_of_nonneg ha0] at hcp
    have := Int.emod_lt_of_pos a (b := (L.kl.length : Int)) (by omega)
    omega
  have e3 : IntKind.i64.wrap a = a := wrap_i64 (by omega) (by omega)
  have e4 : IntKind.i64.wrap (-1 - a) = -1 - a := wrap_i64 (by omega) (by omega)
  obtain ⟨v, hv⟩ : ∃ v, w.tmod 7 = v := ⟨_, rfl⟩
  have hv7 : 0 ≤ v ∧ v < 7 := by rw [Int.tmod_eq_emod_of_nonneg hw0] at hv; omega
  obtain ⟨p, hp⟩ : ∃ p, w.tmod 2 = p := ⟨_, rfl⟩
  have hp2 : p = 0 ∨ p = 1 := by rw [Int.tmod_eq_emod_of_nonneg hw0] at hp; omega
  have hto : (cp : Int).toNat = cp := Int.toNat_natCast cp
  have hpre : PreOk L.st := h0.preOk (by omega) (by omega)
  have hkin : Kinds L.st := h0.kinds
  obtain rfl : v = 5 := by rw [← hv]; exact hv2
  have hA : ¬ (5 : Int) < 2 := by decide
  have htz : ((L.tl.length : Int) = 0) = False := eq_false (by omega)
  obtain ⟨ti, hti⟩ : ∃ ti : Nat, a.tmod (L.tl.length : Int) = (ti : Int) := ⟨(a.tmod (L.tl.length : Int)).toNat, by rw [Int.tmod_eq_emod_of_nonneg ha0]; have := Int.emod_nonneg a (b := (L.tl.length : Int)) (by omega); omega⟩
  have htn : ti < L.tl.length := by
    rw [Int.tmod_eq_emod_of_nonneg ha0] at hti
    have := Int.emod_lt_of_pos a (b := (L.tl.length : Int)) (by omega)
    omega
  have hT0 := h0.tk ti htn
  have hto2 : (ti : Int).toNat = ti := Int.toNat_natCast ti
  have hk64 : ((L.kl.length : Int) = 64) = False := eq_false (by omega)
  have hg1 : 0 ≤ (L.tsk ti).group ∧ (L.tsk ti).group < L.sl.length := ⟨hT0.g0, hT0.g1⟩
  have hcu0 := hT0.c0
  have hcu1 := hT0.c1
  have hsh1 : IntKind.u64.wrap (1 * 2 ^ min L.kl.length 64) = ((2 ^ L.kl.length : Nat) : Int) := shl_one (n := L.kl.length) (by omega)
  have hsh2 : IntKind.u64.wrap (1 * 2 ^ min (L.tsk ti).cpu.toNat 64) = ((2 ^ (L.tsk ti).cpu.toNat : Nat) : Int) := shl_one (n := (L.tsk ti).cpu.toNat) (by omega)
  have hne1 : ((L.kl.length : Int) < 0) = False := eq_false (by omega)
  have hne2 : ((L.tsk ti).cpu < 0) = False := eq_false (by omega)
  obtain ⟨y, hy, y0, y1, yb⟩ := mask_or (x := (L.tsk ti).mask) (n := L.kl.length) hT0.m0 hT0.m1 (by omega)
  obtain ⟨z, hz, z0, z1, zb⟩ := mask_not (x := (L.tsk ti).mask) (n := (L.tsk ti).cpu.toNat) hT0.m0 hT0.m1 (by omega)
  have hvA : ((5 : Int) < 2) = False := eq_false hA
  have htw := hT0.e
  have hwt : 1 ≤ (L.tsk ti).weight ∧ (L.tsk ti).weight ≤ 65536 := by simp only [ent, decide_eq_true_eq] at htw; omega
  have hw32 : IntKind.u32.wrap (L.tsk ti).weight = (L.tsk ti).weight := wrap_u32 (by omega) (by omega)
  have yb' : ∀ c, bitB y c = (bitB (L.tsk ti).mask c || decide (c = n)) := by rw [← hkl]; exact yb
  obtain rfl : g0 = 0 := hg5
  have hcr : cp < (L.sl.getD 0 []).length := by rw [hrow 0 (by omega)]; exact hcn
  have hr0 : (L.sl.getD 0 []).length = n := hrow 0 (by omega)
  have hcw : (cwR (b + 4) n L 0 L.sl.length)[0]? = some [.sl (b + 4) 0 n] := by rw [cwR_get (by omega)]; rfl
  obtain ⟨T, hT⟩ := small_text (in3 (r := 12) (.inr (.inl rfl)) (show cp < 4 by omega))
  have hkm : Kinds (L.setS 0 cp { L.sp 0 cp with v := 1 }).st := Kinds.of h0.tk_all (fun g c => by
    show 0 ≤ ((L.setS 0 cp _).sp g c).v ∧ ((L.setS 0 cp _).sp g c).v ≤ _ ∧ 0 ≤ ((L.setS 0 cp _).sp g c).r
    rw [setS_sp (by omega) hcr]
    split
    · exact ⟨by show (0 : Int) ≤ 1; omega, by show (1 : Int) ≤ _; omega, (h0.sp_all 0 cp).2.2⟩
    · exact h0.sp_all g c)
  have hG := give1 (b := b) (n := n) (g0 := 0) (k := b + 14) (L := L) (M := L.setS 0 cp { L.sp 0 cp with v := 1 }) (by omega) setS_len (fun g hg => by rw [setS_rows]; exact hrow g (by rw [setS_len] at hg; exact hg)) (hpre.of rfl rfl rfl rfl setS_len fun _ => setS_rows) hkm (one_root hrt hcn) (by simp only [w1R, setS_len] <;> rfl) (by rw [w1H, setS_len, cwR_setS (by omega) hcr, slR_setS (by omega)] <;> rfl)
  have hX1 := texts1 (F := fun i => [[AVal.lit (.int .u8 12), .lit (.int .i64 (cp : Int)), .lit (.int .i64 0)]].getD i []) rfl hT
  have hX2 := texts1o (b + 14) (b + 15) (by omega) hT
  have hX3 := sameTexts1 (Γ := []) T (fun _ => [.lit (.string T)]) (fun i => [[AVal.lit (.string T)]].getD i []) rfl rfl
  have kp : Kp [0,1,2,3,4,8,9,10,11,12,13,14,15,16,17,18,20,33,48,60,90,102,105,106,107,138,142,143,144,145,159,189,194,207,222,233] (fun i => i - b) := kpI
  have uU := zA @hNl (zA @hNt (zA @hNo (zA @hNc (zA @hNb (zA @hNd (zA @apN (zA @hkz (zA @hcp (zA @e3 (zA @e4 (zA @hv (zA @hp (zA @hto (zA @htz (zA @hti (zA @hto2 (zA @hk64 (zA @hsh1 (zA @hsh2 (zA @hne1 (zA @hne2 (zA @hy (zA @hz (zA @hvA (zA @hw32 @hcw)))))))))))))))))))))))))
  refine wlL ?_ <;> and_intros <;> first | exact hdT | (apply zM; (repeat intro ht); apply zM; (repeat intro hg); apply zM)
  refine dlL [.gen (.rd 3 1 (fun i => [[AVal.lit (.int .u8 (12)), .lit (.int .i64 ((cp : Int))), .lit (.int .i64 (0))]].getD i [])) (b + 14) ([(b + 11, ⟨1, false, cwR (b + 4) n L 0 L.sl.length⟩), (b + 4, ⟨3, true, (slR L 0).set cp [.lit (.int .u64 1), .lit (.int .u32 (L.sp 0 cp).r), .lit (.int .u64 (L.sp 0 cp).floor)]⟩), (b + 6, ⟨1, true, klR L⟩), (b + 8, ⟨1, true, ulR L⟩), (b + 10, ⟨8, true, tlR L⟩)]) [], .ret (.rd 1 1 (fun _ => [.lit (.string T)])), .gen (.rd 1 1 (fun i => [[AVal.lit (.string T)]].getD i [])) (b + 18) [(b + 14, ⟨3, true, [[.lit (.int .u8 (12)), .lit (.int .i64 ((cp : Int))), .lit (.int .i64 (0))]]⟩)] [(b + 14, ⟨3, true, [[.lit (.int .u8 (12)), .lit (.int .i64 ((cp : Int))), .lit (.int .i64 (0))]]⟩)], .ret (.lit (.bool true))] ?_ <;> and_intros <;> first | exact hdT | (apply zM; (repeat intro ht); apply zM; (repeat intro hg); apply zM)
  all_goals (try (first | exact hG | exact hX1 | exact hX2 | exact hX3 | exact cwR_bd (key2 (by omega))))
  refine wlL ?_ <;> and_intros <;> first | exact hdT | (apply zM; (repeat intro ht); apply zM; (repeat intro hg); apply zM)
  refine C_ret rfl ?_
  exact ⟨_, rfl, rfl⟩
set_option maxHeartbeats 8000000 in
theorem one_w6 {n g0 k b nl : Nat} {L : LSt} {NC : List AVal} {G : Nat → List AVal} {a w : Int} (hC : OneC n g0 k b L NC a w) (hv2 : w.tmod 7 = 6) (hg6 : (L.tsk (a.tmod (L.tl.length : Int)).toNat).group = (g0 : Int)) : AM.W Tryz.prog [] 251 k (cat (bodyOf Tryz.f5) [1, 0, 1, 1, 1]) (thenQ (AM.W Tryz.prog [] 251 k (cat (bodyOf Tryz.f5) [1, 1, 1, 1]) (retQ Tryz.prog Tryz.f5 fun x r1 x_1 => r1 = .lit (.bool true))) (retQ Tryz.prog Tryz.f5 fun x r1 x_1 => r1 = .lit (.bool true))) (b + 13) [(33, .lit (.bool false)), (10, .lit (.bool true)), (9, .ptr (b + 12) 0 0), (20, .lit (.bool false)), (8, .lit (.bool false)), (4, .ptr k 0 0), (0, .agg NC), (1, .rd 8 nl G), (2, .lit (.int .u8 a)), (3, .lit (.int .u8 w))] [(b + 12, ⟨7, false, [w1R b L]⟩), (b + 11, ⟨1, false, cwR (b + 4) n L g0 L.sl.length⟩), (b + 4, ⟨3, true, slR L g0⟩), (b + 6, ⟨1, true, klR L⟩), (b + 8, ⟨1, true, ulR L⟩), (b + 10, ⟨8, true, tlR L⟩), (k, ⟨13, true, [NC]⟩)] := by
  obtain ⟨hrt, hn1, hn4, h6, h40, ht0, hg0, hk, hNl, hNt, hNo, hNc, hNb, hNd, ha0, ha1, hw0, hw1⟩ := hC
  have h0 := hrt.r0
  have hkl : L.kl.length = n := h0.nk
  have hul : L.ul.length = n := h0.nu
  have hrow := h0.rows
  have hkz : ((L.kl.length : Int) = 0) = False := eq_false (by omega)
  obtain ⟨cp, hcp⟩ : ∃ cp : Nat, a.tmod (L.kl.length : Int) = (cp : Int) := ⟨(a.tmod (L.kl.length : Int)).toNat, by rw [Int.tmod_eq_emod_of_nonneg ha0]; have := Int.emod_nonneg a (b := (L.kl.length : Int)) (by omega); omega⟩
  have hcn : cp < n := by
    rw [Int.tmod_eq_emod_of_nonneg ha0] at hcp
    have := Int.emod_lt_of_pos a (b := (L.kl.length : Int)) (by omega)
    omega
  have e3 : IntKind.i64.wrap a = a := wrap_i64 (by omega) (by omega)
  have e4 : IntKind.i64.wrap (-1 - a) = -1 - a := wrap_i64 (by omega) (by omega)
  obtain ⟨v, hv⟩ : ∃ v, w.tmod 7 = v := ⟨_, rfl⟩
  have hv7 : 0 ≤ v ∧ v < 7 := by rw [Int.tmod_eq_emod_of_nonneg hw0] at hv; omega
  obtain ⟨p, hp⟩ : ∃ p, w.tmod 2 = p := ⟨_, rfl⟩
  have hp2 : p = 0 ∨ p = 1 := by rw [Int.tmod_eq_emod_of_nonneg hw0] at hp; omega
  have hto : (cp : Int).toNat = cp := Int.toNat_natCast cp
  have hpre : PreOk L.st := h0.preOk (by omega) (by omega)
  have hkin : Kinds L.st := h0.kinds
  obtain rfl : v = 6 := by rw [← hv]; exact hv2
  have hA : ¬ (6 : Int) < 2 := by decide
  have htz : ((L.tl.length : Int) = 0) = False := eq_false (by omega)
  obtain ⟨ti, hti⟩ : ∃ ti : Nat, a.tmod (L.tl.length : Int) = (ti : Int) := ⟨(a.tmod (L.tl.length : Int)).toNat, by rw [Int.tmod_eq_emod_of_nonneg ha0]; have := Int.emod_nonneg a (b := (L.tl.length : Int)) (by omega); omega⟩
  have htn : ti < L.tl.length := by
    rw [Int.tmod_eq_emod_of_nonneg ha0] at hti
    have := Int.emod_lt_of_pos a (b := (L.tl.length : Int)) (by omega)
    omega
  have hT0 := h0.tk ti htn
  have hto2 : (ti : Int).toNat = ti := Int.toNat_natCast ti
  have hk64 : ((L.kl.length : Int) = 64) = False := eq_false (by omega)
  have hg1 : 0 ≤ (L.tsk ti).group ∧ (L.tsk ti).group < L.sl.length := ⟨hT0.g0, hT0.g1⟩
  have hcu0 := hT0.c0
  have hcu1 := hT0.c1
  have hsh1 : IntKind.u64.wrap (1 * 2 ^ min L.kl.length 64) = ((2 ^ L.kl.length : Nat) : Int) := shl_one (n := L.kl.length) (by omega)
  have hsh2 : IntKind.u64.wrap (1 * 2 ^ min (L.tsk ti).cpu.toNat 64) = ((2 ^ (L.tsk ti).cpu.toNat : Nat) : Int) := shl_one (n := (L.tsk ti).cpu.toNat) (by omega)
  have hne1 : ((L.kl.length : Int) < 0) = False := eq_false (by omega)
  have hne2 : ((L.tsk ti).cpu < 0) = False := eq_false (by omega)
  obtain ⟨y, hy, y0, y1, yb⟩ := mask_or (x := (L.tsk ti).mask) (n := L.kl.length) hT0.m0 hT0.m1 (by omega)
  obtain ⟨z, hz, z0, z1, zb⟩ := mask_not (x := (L.tsk ti).mask) (n := (L.tsk ti).cpu.toNat) hT0.m0 hT0.m1 (by omega)
  have hvA : ((6 : Int) < 2) = False := eq_false hA
  have htw := hT0.e
  have hwt : 1 ≤ (L.tsk ti).weight ∧ (L.tsk ti).weight ≤ 65536 := by simp only [ent, decide_eq_true_eq] at htw; omega
  have hw32 : IntKind.u32.wrap (L.tsk ti).weight = (L.tsk ti).weight := wrap_u32 (by omega) (by omega)
  have yb' : ∀ c, bitB y c = (bitB (L.tsk ti).mask c || decide (c = n)) := by rw [← hkl]; exact yb
  have hgr : (L.tsk ti).group = (g0 : Int) := by
    have := hg6
    rw [hti, hto2] at this
    exact this
  obtain ⟨ct, hct⟩ : ∃ ct : Nat, (L.tsk ti).cpu = (ct : Int) := ⟨(L.tsk ti).cpu.toNat, by omega⟩
  by_cases hq6 : (L.tsk ti).v ≠ 0 ∧ (L.tsk ti).ready = true
  · obtain ⟨hv0, hrd⟩ := hq6
    have hgl := h0.ng
    have hv0b : ((L.tsk ti).v == 0) = false := by simpa using hv0
    have hcr : ct < (L.sl.getD g0 []).length := by rw [hrow g0 (by omega)]; omega
    have hr0 : (L.sl.getD g0 []).length = n := hrow g0 (by omega)
    have hcw : (cwR (b + 4) n L g0 L.sl.length)[g0]? = some [.sl (b + 4) 0 n] := by rw [cwR_get (by omega), if_pos rfl]
    have hw64 : IntKind.u64.wrap ((L.tsk ti).v - 1) = (L.tsk ti).v - 1 := by have := hT0.v0; have := hT0.v1; exact wrap_u64 (by omega) (by omega)
    have hgt : (g0 : Int).toNat = g0 := Int.toNat_natCast g0
    have hctt : (ct : Int).toNat = ct := Int.toNat_natCast ct
    have kp : Kp [0,1,2,3,4,8,9,10,11,12,13,14,15,16,17,18,20,33,48,60,90,102,105,106,107,138,142,143,144,145,159,189,194,207,222,233] (fun i => i - b) := kpI
    have uU := zA @hNl (zA @hNt (zA @hNo (zA @hNc (zA @hNb (zA @hNd (zA @apN (zA @hkz (zA @hcp (zA @e3 (zA @e4 (zA @hv (zA @hp (zA @hto (zA @htz (zA @hti (zA @hto2 (zA @hk64 (zA @hvA (zA @hv0b (zA @hrd (zA @hgr (zA @hct (zA @hcw (zA @hw64 (zA @hgt @hctt)))))))))))))))))))))))))
    refine wlL ?_ <;> and_intros <;> first | exact hdT | (apply zM; (repeat intro ht); apply zM; (repeat intro hg); apply zM)
    refine M_forO (X := Nat) rfl [0,1,2,3,4,8,9,10,11,12,13,14,15,16,17,18,20,33,48,60,90,102,105,106,107,138,142,143,144,145,159,189,194,207,222,233] (b + 14) (fun m => [(106, .lit (.int .i64 (m : Int)))]) (fun m => [(b + 13, ⟨3, true, [[.lit (.int .u8 0), .lit (.int .i64 (ti : Int)), .lit (.int .i64 0)]]⟩), (b + 12, ⟨7, false, [w1R b L]⟩), (b + 11, ⟨1, false, cwR (b + 4) n L g0 L.sl.length⟩), (b + 4, ⟨3, true, slR L g0⟩), (b + 6, ⟨1, true, klR L⟩), (b + 8, ⟨1, true, ulR L⟩), (b + 10, ⟨8, true, tlR L⟩), (k, ⟨13, true, [NC]⟩)]) (fun m => m ≤ L.tl.length ∧ ∀ j, j < m → j ≠ ti → ¬ ((L.tsk j).ready = true ∧ (L.tsk j).group = (g0 : Int) ∧ (L.tsk j).cpu = (ct : Int))) (fun m => L.tl.length - m) 0 ?_ ⟨Nat.zero_le _, fun j h => absurd h (Nat.not_lt_zero _)⟩ ?_
    · refine rRL ?_ <;> first | exact hdT | apply zN
      exact wkD (hf := by simp -dsimp -implicitDefEqProofs (disch := omega) only [go_sem, nq0, hNl, hNt, hNo, hNc, hNb, hNd, List.append_nil, hkz, hcp, e3, e4, hv, hp, hto, htz, hti, hto2, hk64, hvA, hv0b, hrd, hgr, hct, hcw, hw64, hgt, hctt, List.map_append, eq_self, ↓reduceIte]) (hH := by simp -dsimp -implicitDefEqProofs (disch := omega) only [go_sem, nq0, hNl, hNt, hNo, hNc, hNb, hNd, List.append_nil, hkz, hcp, e3, e4, hv, hp, hto, htz, hti, hto2, hk64, hvA, hv0b, hrd, hgr, hct, hcw, hw64, hgt, hctt, List.map_append, eq_self, ↓reduceIte]) (h := by simp -dsimp -implicitDefEqProofs (disch := omega) only [go_sem, nq0, hNl, hNt, hNo, hNc, hNb, hNd, List.append_nil, hkz, hcp, e3, e4, hv, hp, hto, htz, hti, hto2, hk64, hvA, hv0b, hrd, hgr, hct, hcw, hw64, hgt, hctt, List.map_append, eq_self, ↓reduceIte]) (h' := by simp -dsimp -implicitDefEqProofs (disch := omega) only [go_sem, nq0, hNl, hNt, hNo, hNc, hNb, hNd, List.append_nil, hkz, hcp, e3, e4, hv, hp, hto, htz, hti, hto2, hk64, hvA, hv0b, hrd, hgr, hct, hcw, hw64, hgt, hctt, List.map_append, eq_self, ↓reduceIte])
    rintro m ⟨hm1, hmall⟩
    refine rRL ?_ <;> first | exact hdT | apply zN
    by_cases hmn : m < L.tl.length
    · skip
      refine wlL ?_ <;> and_intros <;> first | exact hdT | (apply zM; (repeat intro ht); apply zM; (repeat intro hg); apply zM)
      · refine C_ret rfl ?_
        exact ⟨_, rfl, rfl⟩
      all_goals
        refine ⟨m + 1, ⟨by omega, fun j hj hne => ?_⟩, by omega, ?_⟩
        · rcases Nat.lt_succ_iff_lt_or_eq.1 hj with h | rfl
          · exact hmall j h hne
          · rintro ⟨b1, b2, b3⟩
            first
              | exact absurd b3 (by assumption)
              | exact absurd b2 (by assumption)
              | (rw [b1] at hg; cases hg)
              | (exact absurd (by omega) hne)
        · exact wkD (hf := by simp -dsimp -implicitDefEqProofs (disch := omega) only [go_sem, nq0, hNl, hNt, hNo, hNc, hNb, hNd, List.append_nil, hkz, hcp, e3, e4, hv, hp, hto, htz, hti, hto2, hk64, hvA, hv0b, hrd, hgr, hct, hcw, hw64, hgt, hctt, List.map_append, eq_self, ↓reduceIte]) (hH := by simp -dsimp -implicitDefEqProofs (disch := omega) only [go_sem, nq0, hNl, hNt, hNo, hNc, hNb, hNd, List.append_nil, hkz, hcp, e3, e4, hv, hp, hto, htz, hti, hto2, hk64, hvA, hv0b, hrd, hgr, hct, hcw, hw64, hgt, hctt, List.map_append, eq_self, ↓reduceIte]) (h := by simp -dsimp -implicitDefEqProofs (disch := omega) only [go_sem, nq0, hNl, hNt, hNo, hNc, hNb, hNd, List.append_nil, hkz, hcp, e3, e4, hv, hp, hto, htz, hti, hto2, hk64, hvA, hv0b, hrd, hgr, hct, hcw, hw64, hgt, hctt, List.map_append, eq_self, ↓reduceIte]) (h' := by simp -dsimp -implicitDefEqProofs (disch := omega) only [go_sem, nq0, hNl, hNt, hNo, hNc, hNb, hNd, List.append_nil, hkz, hcp, e3, e4, hv, hp, hto, htz, hti, hto2, hk64, hvA, hv0b, hrd, hgr, hct, hcw, hw64, hgt, hctt, List.map_append, eq_self, ↓reduceIte])
    · have hmn : m = L.tl.length := by omega
      subst hmn
      refine wlL ?_ <;> and_intros <;> first | exact hdT | (apply zM; (repeat intro ht); apply zM; (repeat intro hg); apply zM)
      refine M_forO (X := Nat) rfl [0,1,2,3,4,8,9,10,11,12,13,14,15,16,17,18,20,33,48,60,90,102,105,106,107,138,142,143,144,145,159,189,194,207,222,233] (b + 14) (fun h => [(144, .lit (.int .i64 (h : Int)))]) (fun h => [(b + 13, ⟨3, true, [[.lit (.int .u8 0), .lit (.int .i64 (ti : Int)), .lit (.int .i64 0)]]⟩), (b + 12, ⟨7, false, [w1R b L]⟩), (b + 11, ⟨1, false, cwR (b + 4) n L g0 L.sl.length⟩), (b + 4, ⟨3, true, slR L g0⟩), (b + 6, ⟨1, true, klR L⟩), (b + 8, ⟨1, true, ulR L⟩), (b + 10, ⟨8, true, tlR L⟩), (k, ⟨13, true, [NC]⟩)]) (fun h => h ≤ L.gl.length ∧ ∀ j, 0 < j → j < h → L.par j ≠ (g0 : Int)) (fun h => L.gl.length - h) 0 ?_ ⟨Nat.zero_le _, fun j _ h => absurd h (Nat.not_lt_zero _)⟩ ?_
      · refine rRL ?_ <;> first | exact hdT | apply zN
        exact wkD (hf := by simp -dsimp -implicitDefEqProofs (disch := omega) only [go_sem, nq0, hNl, hNt, hNo, hNc, hNb, hNd, List.append_nil, hkz, hcp, e3, e4, hv, hp, hto, htz, hti, hto2, hk64, hvA, hv0b, hrd, hgr, hct, hcw, hw64, hgt, hctt, List.map_append, eq_self, ↓reduceIte]) (hH := by simp -dsimp -implicitDefEqProofs (disch := omega) only [go_sem, nq0, hNl, hNt, hNo, hNc, hNb, hNd, List.append_nil, hkz, hcp, e3, e4, hv, hp, hto, htz, hti, hto2, hk64, hvA, hv0b, hrd, hgr, hct, hcw, hw64, hgt, hctt, List.map_append, eq_self, ↓reduceIte]) (h := by simp -dsimp -implicitDefEqProofs (disch := omega) only [go_sem, nq0, hNl, hNt, hNo, hNc, hNb, hNd, List.append_nil, hkz, hcp, e3, e4, hv, hp, hto, htz, hti, hto2, hk64, hvA, hv0b, hrd, hgr, hct, hcw, hw64, hgt, hctt, List.map_append, eq_self, ↓reduceIte]) (h' := by simp -dsimp -implicitDefEqProofs (disch := omega) only [go_sem, nq0, hNl, hNt, hNo, hNc, hNb, hNd, List.append_nil, hkz, hcp, e3, e4, hv, hp, hto, htz, hti, hto2, hk64, hvA, hv0b, hrd, hgr, hct, hcw, hw64, hgt, hctt, List.map_append, eq_self, ↓reduceIte])
      rintro h ⟨hh1, hhall⟩
      refine rRL ?_ <;> first | exact hdT | apply zN
      by_cases hhn : h < L.gl.length
      · skip
        refine wlL ?_ <;> and_intros <;> first | exact hdT | (apply zM; (repeat intro ht); apply zM; (repeat intro hg); apply zM)
        · refine C_ret rfl ?_
          exact ⟨_, rfl, rfl⟩
        all_goals
          refine ⟨h + 1, ⟨by omega, fun j h1 h2 => ?_⟩, by omega, ?_⟩
          · rcases Nat.lt_succ_iff_lt_or_eq.1 h2 with h3 | rfl
            · exact hhall j h1 h3
            · first | assumption | (exact absurd (by omega) hg)
          · refine rRL ?_ <;> first | exact hdT | apply zN
            exact wkD (hf := by simp -dsimp -implicitDefEqProofs (disch := omega) only [go_sem, nq0, hNl, hNt, hNo, hNc, hNb, hNd, List.append_nil, hkz, hcp, e3, e4, hv, hp, hto, htz, hti, hto2, hk64, hvA, hv0b, hrd, hgr, hct, hcw, hw64, hgt, hctt, List.map_append, eq_self, ↓reduceIte]) (hH := by simp -dsimp -implicitDefEqProofs (disch := omega) only [go_sem, nq0, hNl, hNt, hNo, hNc, hNb, hNd, List.append_nil, hkz, hcp, e3, e4, hv, hp, hto, htz, hti, hto2, hk64, hvA, hv0b, hrd, hgr, hct, hcw, hw64, hgt, hctt, List.map_append, eq_self, ↓reduceIte]) (h := by simp -dsimp -implicitDefEqProofs (disch := omega) only [go_sem, nq0, hNl, hNt, hNo, hNc, hNb, hNd, List.append_nil, hkz, hcp, e3, e4, hv, hp, hto, htz, hti, hto2, hk64, hvA, hv0b, hrd, hgr, hct, hcw, hw64, hgt, hctt, List.map_append, eq_self, ↓reduceIte]) (h' := by simp -dsimp -implicitDefEqProofs (disch := omega) only [go_sem, nq0, hNl, hNt, hNo, hNc, hNb, hNd, List.append_nil, hkz, hcp, e3, e4, hv, hp, hto, htz, hti, hto2, hk64, hvA, hv0b, hrd, hgr, hct, hcw, hw64, hgt, hctt, List.map_append, eq_self, ↓reduceIte])
      · have hhn : h = L.gl.length := by omega
        subst hhn
        obtain ⟨T, hT⟩ := small_text (in14 (show g0 < 6 by omega) (show ct < 4 by omega))
        have hkm : Kinds (L.setS g0 ct { L.sp g0 ct with floor := (L.tsk ti).v - 1 }).st := Kinds.of h0.tk_all (fun g c => by
          show 0 ≤ ((L.setS g0 ct _).sp g c).v ∧ ((L.setS g0 ct _).sp g c).v ≤ _ ∧ 0 ≤ ((L.setS g0 ct _).sp g c).r
          rw [setS_sp (by omega) hcr]
          split
          · exact h0.sp_all g0 ct
          · exact h0.sp_all g c)
        have hG := give1 (b := b) (n := n) (g0 := g0) (k := b + 14) (L := L) (M := L.setS g0 ct { L.sp g0 ct with floor := (L.tsk ti).v - 1 }) (by omega) setS_len (fun g hg => by rw [setS_rows]; exact hrow g (by rw [setS_len] at hg; exact hg)) (hpre.of rfl rfl rfl rfl setS_len fun _ => setS_rows) hkm (one_floor hrt (by omega) htn hgr hct hrd hv0 hmall hhall) (by simp only [w1R, setS_len] <;> rfl) (by rw [w1H, setS_len, cwR_setS (by omega) hcr, slR_setS (by omega)] <;> rfl)
        have hX1 := texts1 (F := fun i => [[AVal.lit (.int .u8 14), .lit (.int .i64 (g0 : Int)), .lit (.int .i64 (ct : Int))]].getD i []) rfl hT
        have hX2 := texts1o (b + 14) (b + 15) (by omega) hT
        have hX3 := sameTexts1 (Γ := []) T (fun _ => [.lit (.string T)]) (fun i => [[AVal.lit (.string T)]].getD i []) rfl rfl
        refine wlL ?_ <;> and_intros <;> first | exact hdT | (apply zM; (repeat intro ht); apply zM; (repeat intro hg); apply zM)
        refine dlL [.gen (.rd 3 1 (fun i => [[AVal.lit (.int .u8 (14)), .lit (.int .i64 ((g0 : Int))), .lit (.int .i64 ((ct : Int)))]].getD i [])) (b + 14) ([(b + 11, ⟨1, false, cwR (b + 4) n L g0 L.sl.length⟩), (b + 4, ⟨3, true, (slR L g0).set ct [.lit (.int .u64 (L.sp g0 ct).v), .lit (.int .u32 (L.sp g0 ct).r), .lit (.int .u64 ((L.tsk ti).v - 1))]⟩), (b + 6, ⟨1, true, klR L⟩), (b + 8, ⟨1, true, ulR L⟩), (b + 10, ⟨8, true, tlR L⟩)]) [], .ret (.rd 1 1 (fun _ => [.lit (.string T)])), .gen (.rd 1 1 (fun i => [[AVal.lit (.string T)]].getD i [])) (b + 18) [(b + 14, ⟨3, true, [[.lit (.int .u8 (14)), .lit (.int .i64 ((g0 : Int))), .lit (.int .i64 ((ct : Int)))]]⟩)] [(b + 14, ⟨3, true, [[.lit (.int .u8 (14)), .lit (.int .i64 ((g0 : Int))), .lit (.int .i64 ((ct : Int)))]]⟩)], .ret (.lit (.bool true))] ?_ <;> and_intros <;> first | exact hdT | (apply zM; (repeat intro ht); apply zM; (repeat intro hg); apply zM)
        all_goals (try (first | exact hG | exact hX1 | exact hX2 | exact hX3 | exact cwR_bd (key2 (by omega))))
        refine wlL ?_ <;> and_intros <;> first | exact hdT | (apply zM; (repeat intro ht); apply zM; (repeat intro hg); apply zM)
        refine C_ret rfl ?_
        exact ⟨_, rfl, rfl⟩
  · skip
    have kp : Kp [0,1,2,3,4,8,9,10,11,12,13,14,15,16,17,18,20,33,48,60,90,102,105,106,107,138,142,143,144,145,159,189,194,207,222,233] (fun i => i - b) := kpI
    have uU := zA @hNl (zA @hNt (zA @hNo (zA @hNc (zA @hNb (zA @hNd (zA @apN (zA @hkz (zA @hcp (zA @e3 (zA @e4 (zA @hv (zA @hp (zA @hto (zA @htz (zA @hti (zA @hto2 (zA @hk64 @hvA)))))))))))))))))
    refine wlL ?_ <;> and_intros <;> first | exact hdT | (apply zM; (repeat intro ht); apply zM; (repeat intro hg); apply zM)
    all_goals (first | (refine C_ret rfl ?_; exact ⟨_, rfl, rfl⟩) | (exfalso; simp_all; done))
set_option maxHeartbeats 8000000 in
theorem one_tr1 (x : Nums) (hx : NumsOk x) (f : Nat → Sm) (hf : ∀ i, SmOk (f i)) (nl q qg n ng : Nat) (hq : q = min nl 40) (hnl : nl ≤ 9223372036854775807) (hqg : x.g % 6 = (qg : Int)) (hn : 1 + x.c % 4 = (n : Int)) (hng : ng = qg + 1)
    (a w : Int) (ha0 : 0 ≤ a) (ha1 : a ≤ 255) (hw0 : 0 ≤ w) (hw1 : w ≤ 255)
    (k : Nat) (Ls : Nat → LSt) (zs : Nat → LSt × (Int × Int) × (Nat × Nat)) (hR : Runs [] n ng (k + 17) (k + (25 + ng)) (k + (27 + ng)) (fun i => opn (f i)) (newL (cfgS (1 + x.c % 4) x.cr (mkGD x qg).1) n) Ls zs) (ht : 0 < (Ls q).tl.length) (g0 : Nat) (hg0 : g0 < ng) (hg5 : w.tmod 7 = 5 → g0 = 0) (hg6 : w.tmod 7 = 6 → ((Ls q).tsk (a.tmod ((Ls q).tl.length : Int)).toNat).group = (g0 : Int)) :
    Tr Tryz.prog [] 5 k [.agg x.cells, .rd 8 nl (fun i => smc (f i)), .lit (.int .u8 a), .lit (.int .u8 w)] [] (fun _ r1 _ => r1 = .lit (.bool true)) := by
  have hmade := madeW1 g0 x hx f hf nl 40 q qg n ng hq (by omega) (by omega) hnl hqg hn hng (k + 1) Ls zs (by rw [show k + 1 + 16 = k + 17 by omega, show k + 1 + (24 + ng) = k + (25 + ng) by omega, show k + 1 + (26 + ng) = k + (27 + ng) by omega]; exact hR) hg0 ht (Γ := [])
  obtain ⟨b, eb⟩ : ∃ b, b = k + 1 + (25 + ng) := ⟨_, rfl⟩
  rw [← eb, show k + 1 + (37 + ng) = b + 12 by omega] at hmade
  obtain ⟨hrt, htl, hsl⟩ := hR.rt q (by omega)
  have hc0 := hx.c0
  have hn1 : 1 ≤ n := by omega
  have hn4 : n ≤ 4 := by omega
  obtain ⟨L, eL⟩ : ∃ L, L = Ls q := ⟨_, rfl⟩
  rw [← eL] at hmade hrt htl hsl ht hg6
  have h0 := hrt.r0
  have hkl : L.kl.length = n := h0.nk
  have hul : L.ul.length = n := h0.nu
  have hrow := h0.rows
  have hsh := lshaped L n h0 (Γ := [])
  obtain ⟨NC, eNC⟩ : ∃ NC, NC = x.cells := ⟨_, rfl⟩
  have hNl : NC.length = 13 := by rw [eNC]; rfl
  have hNt : NC.take 13 = NC := by rw [eNC]; rfl
  have hNo : NC.all AM.one = true := by rw [eNC]; rfl
  have hNc : NC.all clean = true := by rw [eNC]; rfl
  have hNb : ∀ p : Nat → Bool, NC.all (bd0 p) = true := fun p => by rw [eNC]; rfl
  have hNd : List.drop 13 NC = [] := by rw [eNC]; rfl
  have hk : k + 27 ≤ b := by omega
  rw [← eNC] at hmade ⊢
  refine Tr_at Tryz.func5 rfl 251 rfl (Nat.le_of_ble_eq_true rfl) ?_
  have kp : Kp [0,1,2,3,4,8,9,10,11,12,13,14,15,16,17,18,20,33,48,60,90,102,105,106,107,138,142,143,144,145,159,189,194,207,222,233] (fun i => i - k) := kpI
  have uU := zA @hNl (zA @hNt (zA @hNo (zA @hNc (zA @hNb (zA @hNd @apN)))))
  refine wlL ?_ <;> and_intros <;> first | exact hdT | (apply zM; (repeat intro ht); apply zM; (repeat intro hg); apply zM)
  refine clL [.ret (.lit (.bool true))] ?_ <;> and_intros <;> first | exact hdT | (apply zM; (repeat intro ht); apply zM; (repeat intro hg); apply zM)
  · exact awake
  refine wlL ?_ <;> and_intros <;> first | exact hdT | (apply zM; (repeat intro ht); apply zM; (repeat intro hg); apply zM)
  refine clL [.gen (.tup [.agg (w1R b L), .lit (.bool true)]) (b + 12) [] (w1H b n g0 L [])] ?_ <;> and_intros <;> first | exact hdT | (apply zM; (repeat intro ht); apply zM; (repeat intro hg); apply zM)
  all_goals (try exact hmade)
  refine wlL ?_ <;> and_intros <;> first | exact hdT | (apply zM; (repeat intro ht); apply zM; (repeat intro hg); apply zM)
  refine clL [.raw (some 31) ⟨.lit (.bool true), b + 13, [], [b + 11, b + 4, b + 6, b + 8, b + 10]⟩] ?_ <;> and_intros <;> first | exact hdT | (apply zM; (repeat intro ht); apply zM; (repeat intro hg); apply zM)
  all_goals (try (exact ro_good (Hc := w1H b n g0 L []) (vs := [.agg (w1R b L)]) (vs' := [.agg L.st.cells]) rfl (by kernel_rfl) rfl rfl (BorL.one (w1_bor (by omega) hrow)) w1_in rfl hsh))
  all_goals (try exact absurd trivial ‹¬True›)
  have hC : OneC n g0 k b L NC a w := ⟨hrt, hn1, hn4, by omega, by omega, by assumption, by omega, hk, hNl, hNt, hNo, hNc, hNb, hNd, ha0, ha1, hw0, hw1⟩
  have hv7 : w.tmod 7 < 2 ∨ w.tmod 7 = 2 ∨ w.tmod 7 = 3 ∨ w.tmod 7 = 4 ∨ w.tmod 7 = 5 ∨ w.tmod 7 = 6 := by rw [Int.tmod_eq_emod_of_nonneg hw0]; omega
  rcases hv7 with e | e | e | e | e | e
  · exact one_wA hC e
  · exact one_w2 hC e
  · exact one_w3 hC e
  · exact one_w4 hC e
  · exact one_w5 hC e (hg5 e)
  · exact one_w6 hC e (hg6 e)
end Go.Proofs.T
end
section
namespace Go.Proofs.T
open Go Go.AM Go.Proofs
set_option maxRecDepth 20000
theorem w0_in {b n g0 k : Nat} {L : LSt} {R : List (List AVal)} {X : Blk} : ∀ id B, AM.look (w0H b n g0 L []) id = some B → AM.look [(b + 12, ⟨7, false, R⟩), (b + 11, ⟨1, false, cwR (b + 4) n L g0 L.sl.length⟩), (b + 4, ⟨3, true, slR L g0⟩), (b + 6, ⟨1, true, klR L⟩), (b + 8, ⟨1, true, ulR L⟩), (k, X)] id = some B := fun id B hB => by
  have hk := key_w (b := b) (n := n) (g0 := g0) (L := L) (H := []) (q := id) (.inr (by unfold keyB; rw [hB]; rfl))
  have hid : id ≠ b + 12 := by
    rcases hk with hk | hk
    · omega
    · simp [keyB, AM.look] at hk
  simp only [w0H, AM.look] at hB ⊢
  rw [if_neg (Ne.symm hid)]
  repeat' (split at hB; (· rename_i e; rw [if_pos e]; exact hB); (rename_i e; rw [if_neg e]))
  cases hB
attribute [local irreducible] putO del
set_option maxHeartbeats 8000000 in
theorem one_tr0 (x : Nums) (hx : NumsOk x) (f : Nat → Sm) (hf : ∀ i, SmOk (f i)) (nl q qg n ng : Nat) (hq : q = min nl 40) (hnl : nl ≤ 9223372036854775807) (hqg : x.g % 6 = (qg : Int)) (hn : 1 + x.c % 4 = (n : Int)) (hng : ng = qg + 1)
    (a w : Int) (ha0 : 0 ≤ a) (ha1 : a ≤ 255) (hw0 : 0 ≤ w) (hw1 : w ≤ 255)
    (k : Nat) (Ls : Nat → LSt) (zs : Nat → LSt × (Int × Int) × (Nat × Nat)) (hR : Runs [] n ng (k + 17) (k + (25 + ng)) (k + (27 + ng)) (fun i => opn (f i)) (newL (cfgS (1 + x.c % 4) x.cr (mkGD x qg).1) n) Ls zs) (ht : (Ls q).tl = []) (g0 : Nat) (hg0 : g0 < ng) :
    Tr Tryz.prog [] 5 k [.agg x.cells, .rd 8 nl (fun i => smc (f i)), .lit (.int .u8 a), .lit (.int .u8 w)] [] (fun _ r1 _ => r1 = .lit (.bool true)) := by
  have hmade := madeW0 g0 x hx f hf nl 40 q qg n ng hq (by omega) (by omega) hnl hqg hn hng (k + 1) Ls zs (by rw [show k + 1 + 16 = k + 17 by omega, show k + 1 + (24 + ng) = k + (25 + ng) by omega, show k + 1 + (26 + ng) = k + (27 + ng) by omega]; exact hR) hg0 ht (Γ := [])
  obtain ⟨b, eb⟩ : ∃ b, b = k + 1 + (25 + ng) := ⟨_, rfl⟩
  rw [← eb, show k + 1 + (37 + ng) = b + 12 by omega] at hmade
  obtain ⟨hrt, htl, hsl⟩ := hR.rt q (by omega)
  have hc0 := hx.c0
  have hn1 : 1 ≤ n := by omega
  have hn4 : n ≤ 4 := by omega
  obtain ⟨L, eL⟩ : ∃ L, L = Ls q := ⟨_, rfl⟩
  rw [← eL] at hmade hrt htl hsl ht
  have htl1 : L.tl.length = 0 := by rw [ht]; rfl
  have htl0 : ((L.tl.length : Int) = 0) = True := eq_true (by omega)
  have h0 := hrt.r0
  have hkl : L.kl.length = n := h0.nk
  have hul : L.ul.length = n := h0.nu
  have hrow := h0.rows
  have hsh := lshaped L n h0 (Γ := [])
  obtain ⟨NC, eNC⟩ : ∃ NC, NC = x.cells := ⟨_, rfl⟩
  have hNl : NC.length = 13 := by rw [eNC]; rfl
  have hNt : NC.take 13 = NC := by rw [eNC]; rfl
  have hNo : NC.all AM.one = true := by rw [eNC]; rfl
  have hNc : NC.all clean = true := by rw [eNC]; rfl
  have hNb : ∀ p : Nat → Bool, NC.all (bd0 p) = true := fun p => by rw [eNC]; rfl
  have hNd : List.drop 13 NC = [] := by rw [eNC]; rfl
  have hk : k + 27 ≤ b := by omega
  rw [← eNC] at hmade ⊢
  refine Tr_at Tryz.func5 rfl 251 rfl (Nat.le_of_ble_eq_true rfl) ?_
  have kp : Kp [0,1,2,3,4,8,9,10,11,12,13,14,15,16,17,18,20,33,48,60,90,102,105,106,107,138,142,143,144,145,159,189,194,207,222,233] (fun i => i - k) := kpI
  have uU := zA @hNl (zA @hNt (zA @hNo (zA @hNc (zA @hNb (zA @hNd @apN)))))
  refine wlL ?_ <;> and_intros <;> first | exact hdT | (apply zM; (repeat intro ht); apply zM; (repeat intro hg); apply zM)
  refine clL [.ret (.lit (.bool true))] ?_ <;> and_intros <;> first | exact hdT | (apply zM; (repeat intro ht); apply zM; (repeat intro hg); apply zM)
  · exact awake
  refine wlL ?_ <;> and_intros <;> first | exact hdT | (apply zM; (repeat intro ht); apply zM; (repeat intro hg); apply zM)
  refine clL [.gen (.tup [.agg (w0R b L), .lit (.bool true)]) (b + 12) [] (w0H b n g0 L [])] ?_ <;> and_intros <;> first | exact hdT | (apply zM; (repeat intro ht); apply zM; (repeat intro hg); apply zM)
  all_goals (try exact hmade)
  refine wlL ?_ <;> and_intros <;> first | exact hdT | (apply zM; (repeat intro ht); apply zM; (repeat intro hg); apply zM)
  refine clL [.raw (some 31) ⟨.lit (.bool true), b + 13, [], [b + 11, b + 4, b + 6, b + 8]⟩] ?_ <;> and_intros <;> first | exact hdT | (apply zM; (repeat intro ht); apply zM; (repeat intro hg); apply zM)
  all_goals (try (exact ro_good (Hc := w0H b n g0 L []) (vs := [.agg (w0R b L)]) (vs' := [.agg L.st.cells]) rfl (by kernel_rfl) rfl rfl (BorL.one (w0_bor (by omega) hrow)) w0_in rfl hsh))
  all_goals (try exact absurd trivial ‹¬True›)
  have hkz : ((L.kl.length : Int) = 0) = False := eq_false (by omega)
  obtain ⟨cp, hcp⟩ : ∃ cp : Nat, a.tmod (L.kl.length : Int) = (cp : Int) := ⟨(a.tmod (L.kl.length : Int)).toNat, by rw [Int.tmod_eq_emod_of_nonneg ha0]; have := Int.emod_nonneg a (b := (L.kl.length : Int)) (by omega); omega⟩
  have hcn : cp < n := by
    rw [Int.tmod_eq_emod_of_nonneg ha0] at hcp
    have := Int.emod_lt_of_pos a (b := (L.kl.length : Int)) (by omega)
    omega
  have e3 : IntKind.i64.wrap a = a := wrap_i64 (by omega) (by omega)
  have e4 : IntKind.i64.wrap (-1 - a) = -1 - a := wrap_i64 (by omega) (by omega)
  obtain ⟨v, hv⟩ : ∃ v, w.tmod 7 = v := ⟨_, rfl⟩
  have hv7 : 0 ≤ v ∧ v < 7 := by rw [Int.tmod_eq_emod_of_nonneg hw0] at hv; omega
  obtain ⟨p, hp⟩ : ∃ p, w.tmod 2 = p := ⟨_, rfl⟩
  have hp2 : p = 0 ∨ p = 1 := by rw [Int.tmod_eq_emod_of_nonneg hw0] at hp; omega
  have hto : (cp : Int).toNat = cp := Int.toNat_natCast cp
  have hpre : PreOk L.st := h0.preOk (by omega) (by omega)
  have hkin : Kinds L.st := h0.kinds
  rcases hp2 with rfl | rfl
  · obtain ⟨T, hT⟩ := small_text (in3 (r := 3) (.inl rfl) (show cp < 4 by omega))
    have hG := give0 (b := b) (n := n) (g0 := g0) (k := b + 14) (L := L) (M := L.setK cp (-1 - a)) (by omega) rfl hrow (hpre.of rfl (List.length_set ..) rfl rfl rfl fun _ => rfl) (Kinds.of h0.tk_all h0.sp_all) (one_clock hrt hcn (by omega)) (by simp only [w0R, LSt.setK, List.length_set] <;> rfl) (by rw [w0H, klR_setK] <;> rfl)
    have hX1 := texts1 (F := fun i => [[AVal.lit (.int .u8 3), .lit (.int .i64 (cp : Int)), .lit (.int .i64 0)]].getD i []) rfl hT
    have hX2 := texts1o (b + 14) (b + 15) (by omega) hT
    have hX3 := sameTexts1 (Γ := []) T (fun _ => [.lit (.string T)]) (fun i => [[AVal.lit (.string T)]].getD i []) rfl rfl
    have kp : Kp [0,1,2,3,4,8,9,10,11,12,13,14,15,16,17,18,20,33,48,60,90,102,105,106,107,138,142,143,144,145,159,189,194,207,222,233] (fun i => i - b) := kpI
    have uU := zA @hNl (zA @hNt (zA @hNo (zA @hNc (zA @hNb (zA @hNd (zA @apN (zA @htl0 (zA @hkz (zA @hcp (zA @e3 (zA @e4 (zA @hv (zA @hp @hto)))))))))))))
    refine wlL ?_ <;> and_intros <;> first | exact hdT | (apply zM; (repeat intro ht); apply zM; (repeat intro hg); apply zM)
    refine dlL [.gen (.rd 3 1 (fun i => [[AVal.lit (.int .u8 (3)), .lit (.int .i64 ((cp : Int))), .lit (.int .i64 (0))]].getD i [])) (b + 14) ([(b + 11, ⟨1, false, cwR (b + 4) n L g0 L.sl.length⟩), (b + 4, ⟨3, true, slR L g0⟩), (b + 6, ⟨1, true, (klR L).set cp [.lit (.int .i64 (-1 - a))]⟩), (b + 8, ⟨1, true, ulR L⟩)]) [], .ret (.rd 1 1 (fun _ => [.lit (.string T)])), .gen (.rd 1 1 (fun i => [[AVal.lit (.string T)]].getD i [])) (b + 18) [(b + 14, ⟨3, true, [[.lit (.int .u8 (3)), .lit (.int .i64 ((cp : Int))), .lit (.int .i64 (0))]]⟩)] [(b + 14, ⟨3, true, [[.lit (.int .u8 (3)), .lit (.int .i64 ((cp : Int))), .lit (.int .i64 (0))]]⟩)], .ret (.lit (.bool true))] ?_ <;> and_intros <;> first | exact hdT | (apply zM; (repeat intro ht); apply zM; (repeat intro hg); apply zM)
    all_goals (try (first | exact hG | exact hX1 | exact hX2 | exact hX3 | exact cwR_bd (key2 (by omega))))
    refine wlL ?_ <;> and_intros <;> first | exact hdT | (apply zM; (repeat intro ht); apply zM; (repeat intro hg); apply zM)
    refine C_ret rfl ?_
    exact ⟨_, rfl, rfl⟩
  · have hks : ∀ y, ((klR L).set cp y)[cp]? = some y := fun y => by rw [List.getElem?_set_self (by rw [klR_len]; omega)]
    obtain ⟨T, hT⟩ := small_text (in3 (r := 13) (.inr (.inr rfl)) (show cp < 4 by omega))
    have hG := give0 (b := b) (n := n) (g0 := g0) (k := b + 14) (L := L) (M := (L.setK cp 0).setU cp 65536) (by omega) rfl hrow (hpre.of rfl (List.length_set ..) (List.length_set ..) rfl rfl fun _ => rfl) (Kinds.of h0.tk_all h0.sp_all) (one_cur hrt hcn) (by simp only [w0R, LSt.setK, LSt.setU, List.length_set] <;> rfl) (by rw [w0H, ulR_setU, show klR ((L.setK cp 0).setU cp 65536) = (klR L).set cp [.lit (.int .i64 0)] from klR_setK] <;> rfl)
    have hX1 := texts1 (F := fun i => [[AVal.lit (.int .u8 13), .lit (.int .i64 (cp : Int)), .lit (.int .i64 0)]].getD i []) rfl hT
    have hX2 := texts1o (b + 14) (b + 15) (by omega) hT
    have hX3 := sameTexts1 (Γ := []) T (fun _ => [.lit (.string T)]) (fun i => [[AVal.lit (.string T)]].getD i []) rfl rfl
    have kp : Kp [0,1,2,3,4,8,9,10,11,12,13,14,15,16,17,18,20,33,48,60,90,102,105,106,107,138,142,143,144,145,159,189,194,207,222,233] (fun i => i - b) := kpI
    have uU := zA @hNl (zA @hNt (zA @hNo (zA @hNc (zA @hNb (zA @hNd (zA @apN (zA @htl0 (zA @hkz (zA @hcp (zA @e3 (zA @e4 (zA @hv (zA @hp (zA @hto (zA @hks @ssN)))))))))))))))
    refine wlL ?_ <;> and_intros <;> first | exact hdT | (apply zM; (repeat intro ht); apply zM; (repeat intro hg); apply zM)
    refine dlL [.gen (.rd 3 1 (fun i => [[AVal.lit (.int .u8 (13)), .lit (.int .i64 ((cp : Int))), .lit (.int .i64 (0))]].getD i [])) (b + 14) ([(b + 11, ⟨1, false, cwR (b + 4) n L g0 L.sl.length⟩), (b + 4, ⟨3, true, slR L g0⟩), (b + 6, ⟨1, true, (klR L).set cp [.lit (.int .i64 0)]⟩), (b + 8, ⟨1, true, (ulR L).set cp [.lit (.int .i64 65536)]⟩)]) [], .ret (.rd 1 1 (fun _ => [.lit (.string T)])), .gen (.rd 1 1 (fun i => [[AVal.lit (.string T)]].getD i [])) (b + 18) [(b + 14, ⟨3, true, [[.lit (.int .u8 (13)), .lit (.int .i64 ((cp : Int))), .lit (.int .i64 (0))]]⟩)] [(b + 14, ⟨3, true, [[.lit (.int .u8 (13)), .lit (.int .i64 ((cp : Int))), .lit (.int .i64 (0))]]⟩)], .ret (.lit (.bool true))] ?_ <;> and_intros <;> first | exact hdT | (apply zM; (repeat intro ht); apply zM; (repeat intro hg); apply zM)
    all_goals (try (first | exact hG | exact hX1 | exact hX2 | exact hX3 | exact cwR_bd (key2 (by omega))))
    refine wlL ?_ <;> and_intros <;> first | exact hdT | (apply zM; (repeat intro ht); apply zM; (repeat intro hg); apply zM)
    refine C_ret rfl ?_
    exact ⟨_, rfl, rfl⟩
end Go.Proofs.T
end
section
namespace Go.Proofs.T
open Go Go.AM Go.Proofs
set_option maxRecDepth 20000
theorem auditOne (x : Nums) (hx : NumsOk x) (f : Nat → Sm) (hf : ∀ i, SmOk (f i)) (nl : Nat) (hnl : nl ≤ 9223372036854775807) (a w : Int) (ha0 : 0 ≤ a) (ha1 : a ≤ 255) (hw0 : 0 ≤ w) (hw1 : w ≤ 255) :
    AM.Pure Tryz.prog [] 5 [.agg x.cells, .rd 8 nl (fun i => smc (f i)), .lit (.int .u8 a), .lit (.int .u8 w)] (.lit (.bool true)) := by
  have hc0 := hx.c0
  have hg0 := hx.g0
  obtain ⟨qg, hqg⟩ : ∃ q : Nat, x.g % 6 = (q : Int) := ⟨(x.g % 6).toNat, by omega⟩
  obtain ⟨n, hn⟩ : ∃ q : Nat, 1 + x.c % 4 = (q : Int) := ⟨(1 + x.c % 4).toNat, by omega⟩
  obtain ⟨ng, hng⟩ : ∃ g, g = qg + 1 := ⟨_, rfl⟩
  have hok := newL_ok hx (q := qg) (by omega) hn
  have hsl : (newL (cfgS (1 + x.c % 4) x.cr (mkGD x qg).1) n).sl.length = ng := by
    rw [hng, ← (mkGD_len x qg).1]
    exact List.length_replicate
  obtain ⟨Ls, zs, hR⟩ := runs_ex [] hok rfl (fun i => opn (f i)) (fun i => opn_ok (hf i)) 17 (25 + ng) (27 + ng) (by omega) (by omega)
  rw [hsl] at hR
  have hR0 : Runs [] n ng (0 + 17) (0 + (25 + ng)) (0 + (27 + ng)) (fun i => opn (f i)) (newL (cfgS (1 + x.c % 4) x.cr (mkGD x qg).1) n) Ls zs := by rw [show 0 + 17 = 17 from rfl, show 0 + (25 + ng) = 25 + ng by omega, show 0 + (27 + ng) = 27 + ng by omega]; exact hR
  obtain ⟨q, hq⟩ : ∃ q, q = min nl 40 := ⟨_, rfl⟩
  obtain ⟨hrt, htl, hs⟩ := hR.rt q (by omega)
  by_cases ht : (Ls q).tl = []
  · exact Pure_of0 rfl rfl (Tr.mono (one_tr0 x hx f hf nl q qg n ng hq hnl hqg hn hng a w ha0 ha1 hw0 hw1 0 Ls zs hR0 ht 0 (by omega)) (fun _ _ _ h => by rw [h]; exact VLe.refl _))
  · have hpos : 0 < (Ls q).tl.length := List.length_pos_iff.2 ht
    have hi : (a.tmod ((Ls q).tl.length : Int)).toNat < (Ls q).tl.length := by
      rw [Int.tmod_eq_emod_of_nonneg ha0]
      have h1 := Int.emod_nonneg a (b := ((Ls q).tl.length : Int)) (by omega)
      have h2 := Int.emod_lt_of_pos a (b := ((Ls q).tl.length : Int)) (by omega)
      omega
    have hT := hrt.r0.tk _ hi
    have hg0' := hT.g0
    have hg1 := hT.g1
    by_cases h6 : w.tmod 7 = 6
    · exact Pure_of0 rfl rfl (Tr.mono (one_tr1 x hx f hf nl q qg n ng hq hnl hqg hn hng a w ha0 ha1 hw0 hw1 0 Ls zs hR0 hpos ((Ls q).tsk (a.tmod ((Ls q).tl.length : Int)).toNat).group.toNat (by omega) (fun e => by omega) (fun _ => by omega)) (fun _ _ _ h => by rw [h]; exact VLe.refl _))
    · exact Pure_of0 rfl rfl (Tr.mono (one_tr1 x hx f hf nl q qg n ng hq hnl hqg hn hng a w ha0 ha1 hw0 hw1 0 Ls zs hR0 hpos 0 (by omega) (fun _ => rfl) (fun e => absurd e h6)) (fun _ _ _ h => by rw [h]; exact VLe.refl _))
end Go.Proofs.T
end
section
namespace Go.Proofs.T
open Go Go.AM Go.Proofs Go.ChangeMaps Go.ChangeShapes Go.WideShapes Go.ChangeAt Go.WideMaps Go.WideElems Go.RowKit Go.Proofs.YtkiadljldlppbaaGreatDoor
set_option maxRecDepth 100000
def zeroNums : Value := .agg #[.int .u8 0, .int .u8 0, .int .u32 0, .int .u8 0, .int .u8 0, .int .u8 0, .int .u8 0, .int .u8 0, .int .u16 0, .int .u16 0, .int .u16 0, .int .u16 0, .int .u16 0]
theorem vs_four {W : World} {G : Nat → Prop} {ρ : Names} {A : Allow} {a b c d : AVal} {x y z u : Value} (h : V W G ρ A a x) (h' : V W G ρ A b y) (h'' : V W G ρ A c z) (h3 : V W G ρ A d u) : Vs W G ρ A [a, b, c, d] #[x, y, z, u] :=
  ⟨rfl, fun j w hj => by
    match j with
    | 0 => cases hj; exact h
    | 1 => cases hj; exact h'
    | 2 => cases hj; exact h''
    | 3 => cases hj; exact h3
    | j + 4 => simp at hj⟩
theorem liftedN (os : Os) (started : os.Started) (H : Type) (enc : TypeId × Value → H) :
    ReturnsInHanded {} Tryz.checked os 5 .any (fun w args => (Rows.auditOneSpec.pre enc Tryz.prog Tryz.f5 [] false w args ∧ laidMetH Tryz.prog Rows.auditOneRow.laid w) ∧ sizedMet enc Tryz.prog Tryz.f5 (OpenSpec.ofChange Rows.auditOneSpec) false w args)
      (Rows.auditOneSpec.post enc Tryz.prog Tryz.f5 false true false false) := by
  refine returnsInHanded_of_change_and (C := Tryz.checked) (X := fun w _ => laidMetH Tryz.prog Rows.auditOneRow.laid w) (fun _ _ _ hh h => h.of_heap hh) ownK started (by kernel_rfl) Tryz.func5
    (ChangeSpec.witness_shaped (enc := enc) (C := Tryz.checked) (os := os) (X := fun w _ => laidMetH Tryz.prog Rows.auditOneRow.laid w) false (World.laidAll Tryz.prog os Rows.auditOneRow.laid) #[zeroNums, .slice none 0 0, .int .u8 0, .int .u8 0] 8 (World.laidAll_os _ _ _) (World.shaped_of_ZipB (by kernel_rfl) (by kernel_rfl)) (by kernel_rfl) (by kernel_rfl) (by kernel_rfl)
      (by rw [MakeChecks.laidMetH_plain _ _ _ (by kernel_rfl)]; exact laidMet_laidAll _ (by kernel_rfl) (by kernel_rfl))) ?_
  intro W base args ds gs before hval0 hW _ _ hL _
  have hval : ∀ (j : Nat) t v, Tryz.f5.params[j]? = some t → args[j]? = some v → Value.okWide Tryz.prog W .any base t v := hval0
  have hW' := hW
  obtain ⟨p, q, hA0, hV, rfl, hfz, hnd⟩ := hW
  have hA : DataW.TrodAll enc Tryz.prog W 0 (fun _ => true) true Tryz.f5.params.toList args.toList ds p := hA0
  rw [Tryz.params5] at hA hval
  obtain ⟨v0, v1, v2, v3, d0, d1, d2, d3, p0, p1, p2, p3, rfl, rfl, rfl, h0, h1, h2, h3⟩ := trodAll_four hA
  obtain ⟨rfl, rfl⟩ := trodVars_none hV
  clear hA0 hval0
  obtain ⟨x, hx, hv0⟩ := nums_of (hval 0 27 v0 rfl rfl) h0
  obtain ⟨n, f, hn, hf, hv1⟩ := smalls_of (hval 1 28 v1 rfl rfl) h1
  obtain ⟨z, rfl, rfl, rfl, hz⟩ := open_int Tryz.underlying5 (hval 2 5 v2 rfl rfl) h2
  obtain ⟨y, rfl, rfl, rfl, hy⟩ := open_int Tryz.underlying5 (hval 3 5 v3 rfl rfl) h3
  have hz' := u8_rng hz
  have hy' := u8_rng hy
  refine (row_call (auditOne x hx f hf n hn z y hz'.1 hz'.2 hy'.1 hy'.2) (vs_four hv0 hv1 (.lit (v := .int .u8 z)) (.lit (v := .int .u8 y)))).mono fun e W' ⟨he, hb⟩ => ?_
  subst he
  have hlt0 : ∀ x ∈ p0, x.block < W.heap.size := fun x hx => hW'.lt x (by simp [hx])
  have hlt1 : ∀ x ∈ p1, x.block < W.heap.size := fun x hx => hW'.lt x (by simp [hx])
  refine ⟨_, rfl, _, _, _, [], p0 ++ (p1 ++ []), [], hW', ?_, ?_, rfl, keptBut_below hb _, fun h => by cases h⟩
  · exact trodAll_mk1 (shut_bool Tryz.underlying4 true)
  · exact trodAll_mk4 (Below.trod laidOut (by kernel_rfl) (of_decide_eq_true (by kernel_rfl)) h0 hb hlt0) (Below.trod laidOut (by kernel_rfl) (of_decide_eq_true (by kernel_rfl)) h1 hb hlt1) (shut_int Tryz.underlying5 hz) (shut_int Tryz.underlying5 hy)
theorem auditOne_holds : Rows.AuditOneSaid :=
  OpenClaim.holds_of_wide 5 Tryz.f5 rfl rfl rfl rfl rfl rfl rfl ⟨rfl, rfl, rfl, rfl, rfl⟩ rfl rfl rfl rfl rfl (by kernel_rfl) Tryz.func5 (by kernel_rfl)
    (of_decide_eq_true (by kernel_rfl)) (by unfold Func.isWrapper; first | (rw [if_pos (by decide +kernel)]; kernel_rfl) | (rw [if_neg (by decide +kernel)]; exact ⟨rfl, rfl⟩))
    (fun os started H enc _ => liftedN os started H enc)
end Go.Proofs.T
end
