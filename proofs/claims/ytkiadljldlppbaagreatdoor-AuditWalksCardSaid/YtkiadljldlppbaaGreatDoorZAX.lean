import Derived.Test.YtkiadljldlppbaaGreatDoorZAW
import Derived.ChangeMaps5
import Derived.Lay
import Derived.MakeChecks
set_option linter.unusedVariables false
set_option linter.unusedSimpArgs false
section
namespace Go.Proofs.T
open Go Go.AM Go.Proofs
set_option maxRecDepth 20000
theorem auditWalks (x : Nums) (hx : NumsOk x) (f : Nat → Sm) (hf : ∀ i, SmOk (f i)) (nl : Nat) (hnl : nl ≤ 9223372036854775807) (fr : Int) (hf0 : 0 ≤ fr) (hf1 : fr ≤ 255) :
    AM.Pure Tryz.prog [] 3 [.agg x.cells, .rd 8 nl (fun i => smc (f i)), .lit (.int .u8 fr)] (.lit (.bool true)) := by
  have hc0 := hx.c0
  have hg0 := hx.g0
  obtain ⟨qg, hqg⟩ : ∃ q : Nat, x.g % 6 = (q : Int) := ⟨(x.g % 6).toNat, by omega⟩
  obtain ⟨n, hn⟩ : ∃ q : Nat, 1 + x.c % 4 = (q : Int) := ⟨(1 + x.c % 4).toNat, by omega⟩
  obtain ⟨ng, hng⟩ : ∃ g, g = qg + 1 := ⟨_, rfl⟩
  have hok := newL_ok hx (q := qg) (by omega) hn
  have hsl : (newL (cfgS (1 + x.c % 4) x.cr (mkGD x qg).1) n).sl.length = ng := by
    rw [hng, ← (mkGD_len x qg).1]
    exact List.length_replicate
  obtain ⟨Ls, zs, hR⟩ := runs_ex [] hok rfl (fun i => opn (f i)) (fun i => opn_ok (hf i)) 15 (23 + ng) (27 + ng) (by omega) (by omega)
  rw [hsl] at hR
  exact Pure_of0 rfl rfl (Tr.mono (walks_tr x hx f hf nl (min nl 30) qg n ng rfl hnl hqg hn hng fr hf0 hf1 0 Ls zs (by rw [show 0 + 15 = 15 from rfl, show 0 + (23 + ng) = 23 + ng by omega, show 0 + (27 + ng) = 27 + ng by omega]; exact hR)) (fun _ _ _ h => by rw [h]; exact VLe.refl _))
end Go.Proofs.T
end
section
namespace Go.Proofs.T
open Go Go.AM Go.Proofs Go.ChangeMaps Go.ChangeShapes Go.WideShapes Go.ChangeAt Go.WideMaps Go.WideElems Go.RowKit Go.Proofs.YtkiadljldlppbaaGreatDoor
set_option maxRecDepth 100000
def zeroNums : Value := .agg #[.int .u8 0, .int .u8 0, .int .u32 0, .int .u8 0, .int .u8 0, .int .u8 0, .int .u8 0, .int .u8 0, .int .u16 0, .int .u16 0, .int .u16 0, .int .u16 0, .int .u16 0]
theorem liftedW (os : Os) (started : os.Started) (H : Type) (enc : TypeId × Value → H) :
    ReturnsInHanded {} Tryz.checked os 3 .any (fun w args => (Rows.auditWalksSpec.pre enc Tryz.prog Tryz.f3 [] false w args ∧ laidMetH Tryz.prog Rows.auditWalksRow.laid w) ∧ sizedMet enc Tryz.prog Tryz.f3 (OpenSpec.ofChange Rows.auditWalksSpec) false w args)
      (Rows.auditWalksSpec.post enc Tryz.prog Tryz.f3 false true false false) := by
  refine returnsInHanded_of_change_and (C := Tryz.checked) (X := fun w _ => laidMetH Tryz.prog Rows.auditWalksRow.laid w) (fun _ _ _ hh h => h.of_heap hh) ownK started (by kernel_rfl) Tryz.func3
    (ChangeSpec.witness_shaped (enc := enc) (C := Tryz.checked) (os := os) (X := fun w _ => laidMetH Tryz.prog Rows.auditWalksRow.laid w) false (World.laidAll Tryz.prog os Rows.auditWalksRow.laid) #[zeroNums, .slice none 0 0, .int .u8 0] 8 (World.laidAll_os _ _ _) (World.shaped_of_ZipB (by kernel_rfl) (by kernel_rfl)) (by kernel_rfl) (by kernel_rfl) (by kernel_rfl)
      (by rw [MakeChecks.laidMetH_plain _ _ _ (by kernel_rfl)]; exact laidMet_laidAll _ (by kernel_rfl) (by kernel_rfl))) ?_
  intro W base args ds gs before hval0 hW _ _ hL _
  have hval : ∀ (j : Nat) t v, Tryz.f3.params[j]? = some t → args[j]? = some v → Value.okWide Tryz.prog W .any base t v := hval0
  have hW' := hW
  obtain ⟨p, q, hA0, hV, rfl, hfz, hnd⟩ := hW
  have hA : DataW.TrodAll enc Tryz.prog W 0 (fun _ => true) true Tryz.f3.params.toList args.toList ds p := hA0
  rw [Tryz.params3] at hA hval
  obtain ⟨v0, v1, v2, d0, d1, d2, p0, p1, p2, rfl, rfl, rfl, h0, h1, h2⟩ := trodAll_three hA
  obtain ⟨rfl, rfl⟩ := trodVars_none hV
  clear hA0 hval0
  obtain ⟨x, hx, hv0⟩ := nums_of (hval 0 27 v0 rfl rfl) h0
  obtain ⟨n, f, hn, hf, hv1⟩ := smalls_of (hval 1 28 v1 rfl rfl) h1
  obtain ⟨z, rfl, rfl, rfl, hz⟩ := open_int Tryz.underlying5 (hval 2 5 v2 rfl rfl) h2
  have hz' := u8_rng hz
  refine (row_call (auditWalks x hx f hf n hn z hz'.1 hz'.2) (vs_three hv0 hv1 (.lit (v := .int .u8 z)))).mono fun e W' ⟨he, hb⟩ => ?_
  subst he
  have hlt0 : ∀ x ∈ p0, x.block < W.heap.size := fun x hx => hW'.lt x (by simp [hx])
  have hlt1 : ∀ x ∈ p1, x.block < W.heap.size := fun x hx => hW'.lt x (by simp [hx])
  refine ⟨_, rfl, _, _, _, [], p0 ++ (p1 ++ []), [], hW', ?_, ?_, rfl, keptBut_below hb _, fun h => by cases h⟩
  · exact trodAll_mk1 (shut_bool Tryz.underlying4 true)
  · exact trodAll_mk3 (Below.trod laidOut (by kernel_rfl) (of_decide_eq_true (by kernel_rfl)) h0 hb hlt0) (Below.trod laidOut (by kernel_rfl) (of_decide_eq_true (by kernel_rfl)) h1 hb hlt1) (shut_int Tryz.underlying5 hz)
theorem auditWalks_holds : Rows.AuditWalksSaid :=
  OpenClaim.holds_of_wide 3 Tryz.f3 rfl rfl rfl rfl rfl rfl rfl ⟨rfl, rfl, rfl, rfl, rfl⟩ rfl rfl rfl rfl rfl (by kernel_rfl) Tryz.func3 (by kernel_rfl)
    (of_decide_eq_true (by kernel_rfl)) (by unfold Func.isWrapper; first | (rw [if_pos (by decide +kernel)]; kernel_rfl) | (rw [if_neg (by decide +kernel)]; exact ⟨rfl, rfl⟩))
    (fun os started H enc _ => liftedW os started H enc)
end Go.Proofs.T
end
