import Derived.Test.YteimiejbhhgljaaGreatDoorZAE
import Derived.KernelRfl
set_option linter.unusedVariables false
set_option linter.unusedSimpArgs false
section
namespace Go.AM
def sw (a b i : Nat) : Nat := if i = a then b else if i = b then a else i
theorem sw_sw (a b i : Nat) : sw a b (sw a b i) = i := by unfold sw; split <;> (try split) <;> (try split) <;> (try split) <;> omega
theorem sw_inj {a b i j : Nat} (h : sw a b i = sw a b j) : i = j := by rw [← sw_sw a b i, h, sw_sw]
theorem sw_ne {a b i : Nat} (h1 : i ≠ a) (h2 : i ≠ b) : sw a b i = i := by simp [sw, h1, h2]
def sw0 (a b : Nat) : AVal → AVal
  | .ptr i r c => .ptr (sw a b i) r c
  | .sl i r n => .sl (sw a b i) r n
  | .slc i r n c => .slc (sw a b i) r n c
  | .bfn f i r c => .bfn f (sw a b i) r c
  | .mp i => .mp (sw a b i)
  | .it i => .it (sw a b i)
  | .agg _ => .junk
  | .tup _ => .junk
  | .fn f caps => if caps.isEmpty then .fn f [] else .junk
  | v => v
def sw1 (a b : Nat) : AVal → AVal
  | .agg cs => .agg (cs.map (sw0 a b))
  | .fn f cs => .fn f (cs.map (sw0 a b))
  | v => sw0 a b v
def sw2 (a b : Nat) : AVal → AVal
  | .tup cs => .tup (cs.map (sw1 a b))
  | v => sw1 a b v
def swF (a b : Nat) (fr : Fr) : Fr := fr.map fun x => (x.1, sw2 a b x.2)
def swB (a b : Nat) (C : Blk) : Blk := if C.pure then C else ⟨C.sz, false, C.rows.map fun row => row.map (sw0 a b)⟩
def swH (a b : Nat) (H : Heap) : Heap := H.map fun x => (sw a b x.1, swB a b x.2)
theorem look_swH (a b : Nat) : ∀ (H : Heap) (i : Nat), look (swH a b H) i = (look H (sw a b i)).map (swB a b)
  | [], i => rfl
  | (j, B) :: r, i => by
    simp only [swH, List.map_cons, look]
    by_cases h : sw a b j = i
    · have h' : j = sw a b i := by rw [← h, sw_sw]
      rw [if_pos h, if_pos h']; rfl
    · have h' : ¬ j = sw a b i := fun e => h (by rw [e, sw_sw])
      rw [if_neg h, if_neg h']; exact look_swH a b r i
section
variable {w : World} {G : Nat → Prop} {ρ : Names} {A : Allow} {a b : Nat}
theorem sw0_V {v : AVal} {cv : Value} (h : V w G ρ A v cv) : V w G (fun i => ρ (sw a b i)) (fun i => A (sw a b i)) (sw0 a b v) cv := by
  cases h with
  | nn => exact .nn
  | dangc h1 h2 => exact .dangc (by simpa [sw_sw] using h1) (by simpa [sw_sw] using h2)
  | slc h1 h2 h3 h4 h5 h6 h7 => exact .slc (by simpa [sw_sw] using h1) (by simpa [sw_sw] using h2) h3 h4 h5 h6 h7
  | bfn h => cases h with
    | dang h1 h2 => exact .bfn (.dang (by simpa [sw_sw] using h1) (by simpa [sw_sw] using h2))
    | ptr h1 h2 h3 => exact .bfn (.ptr (by simpa [sw_sw] using h1) (by simpa [sw_sw] using h2) h3)
  | junk => exact .junk
  | lit => exact .lit
  | dang h1 h2 => exact .dang (by simpa [sw_sw] using h1) (by simpa [sw_sw] using h2)
  | dangs h1 h2 => exact .dangs (by simpa [sw_sw] using h1) (by simpa [sw_sw] using h2)
  | ptr h1 h2 h3 => exact .ptr (by simpa [sw_sw] using h1) (by simpa [sw_sw] using h2) h3
  | dangm h1 h2 => exact .dangm (by simpa [sw_sw] using h1) (by simpa [sw_sw] using h2)
  | mp h1 h2 h3 => exact .mp (by simpa [sw_sw] using h1) (by simpa [sw_sw] using h2) h3
  | dangi h1 h2 => exact .dangi (by simpa [sw_sw] using h1) (by simpa [sw_sw] using h2)
  | it h1 h2 h3 => exact .it (by simpa [sw_sw] using h1) (by simpa [sw_sw] using h2) h3
  | sl h1 h2 h3 h4 h5 h6 h7 => exact .sl (by simpa [sw_sw] using h1) (by simpa [sw_sw] using h2) h3 h4 h5 h6 h7
  | sl0 h1 h2 => exact .sl0 (by simpa [sw_sw] using h1) (by simpa [sw_sw] using h2)
  | rp g h1 h2 h3 => exact .rp g h1 h2 h3
  | rd0 => exact .rd0
  | rd g h1 h2 h3 h4 h5 h6 => exact .rd g h1 h2 h3 h4 h5 h6
  | agg h1 h2 => exact .junk
  | tup h1 h2 => exact .junk
  | fn h1 h2 =>
    rename_i f caps cs
    simp only [sw0]
    split
    · rename_i he
      have : caps = [] := by simpa using he
      subst this
      exact .fn h1 (fun j v hj => by simp at hj)
    · exact .junk
theorem sw1_V {v : AVal} {cv : Value} (h : V w G ρ A v cv) : V w G (fun i => ρ (sw a b i)) (fun i => A (sw a b i)) (sw1 a b v) cv := by
  cases v with
  | agg cells =>
    cases h with
    | agg h1 h2 =>
      refine .agg (by simpa using h1) fun j u hj => ?_
      rw [List.getElem?_map, Option.map_eq_some_iff] at hj
      obtain ⟨u', hu', rfl⟩ := hj
      exact sw0_V (h2 j u' hu')
  | fn f cells =>
    cases h with
    | fn h1 h2 =>
      refine .fn (by simpa using h1) fun j u hj => ?_
      rw [List.getElem?_map, Option.map_eq_some_iff] at hj
      obtain ⟨u', hu', rfl⟩ := hj
      exact sw0_V (h2 j u' hu')
  | _ => exact sw0_V h
theorem sw2_V {v : AVal} {cv : Value} (h : V w G ρ A v cv) : V w G (fun i => ρ (sw a b i)) (fun i => A (sw a b i)) (sw2 a b v) cv := by
  cases v with
  | tup cells =>
    cases h with
    | tup h1 h2 =>
      refine .tup (by simpa using h1) fun j u hj => ?_
      rw [List.getElem?_map, Option.map_eq_some_iff] at hj
      obtain ⟨u', hu', rfl⟩ := hj
      exact sw1_V (h2 j u' hu')
  | _ => exact sw1_V h
end
section
variable {P : Program} {Γ : List (Nat × List AVal)} {nt kb : Nat} {Q : AQ} {k : Nat} {fr : Fr} {H : Heap} {c : Code} {p : List Nat}
def Mv (kb k : Nat) (fr : Fr) (H : Heap) (k1 : Nat) (fr1 : Fr) (H1 : Heap) : Prop :=
  kb ≤ k → kb ≤ k1 ∧ ∀ Γ nt A0 w G ρ a, (∀ i, A0 i → i < kb) → Inv Γ nt w G ρ (alw A0 kb k) a fr H → ∃ G' ρ', Inv Γ nt w G' ρ' (alw A0 kb k1) a fr1 H1 ∧ Step (below kb) w G ρ w G' ρ'
theorem Mv.trans {k1 k2 : Nat} {fr1 fr2 : Fr} {H1 H2 : Heap} (h : Mv kb k fr H k1 fr1 H1) (g : Mv kb k1 fr1 H1 k2 fr2 H2) : Mv kb k fr H k2 fr2 H2 := fun hk => by
  obtain ⟨h1, h2⟩ := h hk
  obtain ⟨g1, g2⟩ := g h1
  refine ⟨g1, fun Γ nt A0 w G ρ a hA hi => ?_⟩
  obtain ⟨G', ρ', hi', hs⟩ := h2 Γ nt A0 w G ρ a hA hi
  obtain ⟨G2, ρ2, hi2, hs2⟩ := g2 Γ nt A0 w G' ρ' a hA hi'
  exact ⟨G2, ρ2, hi2, hs.trans hs2 (fun _ h => h)⟩
theorem Mv.refl : Mv kb k fr H k fr H := fun hk => ⟨hk, fun _ _ _ _ G ρ _ _ hi => ⟨G, ρ, hi, Step.refl _ _ _ _⟩⟩
theorem Mv.wk {k1 : Nat} {fr1 : Fr} {H1 : Heap} (h : WkG kb k fr H k1 fr1 H1) : Mv kb k fr H k1 fr1 H1 := fun _ => ⟨h.base, fun Γ nt A0 w G ρ a hA hi => by
  obtain ⟨ρ', h1, h2⟩ := h.inv hi
  exact ⟨G, ρ', h1, h2 _⟩⟩
theorem Mv.freeze (id : Nat) {B : Blk} (hB : look H id = some B) (hp : B.pure = true) : Mv kb k fr H k (frzF id B fr) (frzH id B H) := fun hk => ⟨hk, fun Γ nt A0 w G ρ a hA hi => by
  obtain ⟨G', ρ', h1, h2⟩ := freeze_inv hB hp hi
  exact ⟨G', ρ', h1, h2 _⟩⟩
theorem Mv.swap (a b : Nat) (ha : kb ≤ a ∧ a < k) (hb : kb ≤ b ∧ b < k) : Mv kb k fr H k (swF a b fr) (swH a b H) := fun hk => ⟨hk, fun Γ nt A0 w G ρ ac hA hi => by
  have hal : ∀ i, alw A0 kb k (sw a b i) → alw A0 kb k i := fun i h => by
    by_cases h1 : i = a
    · subst h1; exact .inr ha
    · by_cases h2 : i = b
      · subst h2; exact .inr hb
      · rw [sw_ne h1 h2] at h; exact h
  have hV : ∀ v u cv, V w G (fun i => ρ (sw a b i)) (fun i => alw A0 kb k (sw a b i)) v cv → u = v → V w G (fun i => ρ (sw a b i)) (alw A0 kb k) u cv := fun v u cv h e => by
    subst e; exact h.mono (fun _ h => h) (fun _ _ => rfl) (fun _ _ => rfl) hal (fun _ _ => .inr rfl)
  refine ⟨G, fun i => ρ (sw a b i), ⟨⟨fun id h => ?_, fun id B A h => ?_, fun i j x s t h1 h2 => ?_, hi.rel.ro, hi.rel.glob⟩, hi.size, hi.defers, fun t v hv => ?_⟩, ⟨Nat.le_refl _, fun _ _ _ => rfl, fun _ _ => rfl, fun _ h => h, fun _ h => .inl h, ?_, fun id h => ?_, rfl, rfl, rfl⟩⟩
  · simp only [ofHeap, Option.map_eq_none_iff, look_swH] at h
    exact hi.rel.dom _ (by simp [ofHeap, h])
  · simp only [ofHeap, Option.map_eq_some_iff, look_swH] at h
    obtain ⟨B', ⟨C, hC, rfl⟩, he⟩ := h
    cases he
    obtain ⟨h1, x, h2, h3, h4⟩ := hi.rel.blk (sw a b id) C _ (by simp only [ofHeap, hC, Option.map_some]; rfl)
    have hsz : (swB a b C).sz = C.sz := by unfold swB; split <;> rfl
    refine ⟨hal id h1, x, by rw [hsz]; exact h2, h3, ?_⟩
    obtain ⟨⟨Cs, ty, hCs, hrows⟩, hlen⟩ := h4
    unfold swB
    split
    · rename_i hp
      refine ⟨⟨Cs, ty, hCs, fun r row c v h5 h6 => ?_⟩, hlen⟩
      obtain ⟨cv, h9, h10⟩ := hrows r row c v h5 h6
      simp only [hp, if_true] at h10 ⊢
      exact ⟨cv, h9, h10⟩
    · rename_i hp
      refine ⟨⟨Cs, ty, hCs, fun r row c v h5 h6 => ?_⟩, fun r row h5 => ?_⟩
      · rw [List.getElem?_map, Option.map_eq_some_iff] at h5
        obtain ⟨row0, h7, rfl⟩ := h5
        rw [List.getElem?_map, Option.map_eq_some_iff] at h6
        obtain ⟨v0, h8, rfl⟩ := h6
        obtain ⟨cv, h9, h10⟩ := hrows r row0 c v0 h7 h8
        simp only [hp] at h10
        exact ⟨cv, h9, by simp only [Bool.false_eq_true, if_false]; exact hV _ _ _ (sw0_V h10) rfl⟩
      · rw [List.getElem?_map, Option.map_eq_some_iff] at h5
        obtain ⟨row0, h7, rfl⟩ := h5
        simpa using hlen r row0 h7
  · exact sw_inj (hi.rel.inj _ _ _ _ _ h1 h2)
  · unfold swF at hv
    rw [look_map, Option.map_eq_some_iff] at hv
    obtain ⟨u, hu, rfl⟩ := hv
    exact hV _ _ _ (sw2_V (hi.frm t u hu)) rfl
  · rintro x ⟨i, s, hx⟩; exact .inl ⟨_, s, hx⟩
  · have h' : id < kb := h
    exact .inr (by show ρ (sw a b id) = ρ id; rw [sw_ne (by omega) (by omega)])⟩
theorem W_mv {k1 : Nat} {fr1 : Fr} {H1 : Heap} (hm : Mv kb k fr H k1 fr1 H1) (h : W P Γ nt kb c Q k1 fr1 H1) : W P Γ nt kb c Q k fr H := fun A0 hA0 hk w G ρ a hi => by
  obtain ⟨h1, h2⟩ := hm hk
  obtain ⟨G', ρ', hi', hs⟩ := h2 Γ nt A0 w G ρ a hA0 hi
  exact wp_mono (h A0 hA0 h1 w G' ρ' a hi') fun _ _ _ hp => Post.trans hs hp
def upM (kb : Nat) (Q : AQ) : AQ := fun e k fr H => ∃ k1 fr1 H1, Mv kb k fr H k1 fr1 H1 ∧ Q e k1 fr1 H1
theorem W_upM (h : W P Γ nt kb c (upM kb Q) k fr H) : W P Γ nt kb c Q k fr H := fun A0 hA0 hk w G ρ a hi =>
  wp_mono (h A0 hA0 hk w G ρ a hi) fun e a' w' hp => by
    obtain ⟨G', ρ', k', fr', H', ⟨k1, fr1, H1, hm, hQ⟩, hk', hi', hst⟩ := hp
    obtain ⟨h1, h2⟩ := hm hk'
    obtain ⟨G1, ρ1, hi1, hs1⟩ := h2 Γ nt A0 w' G' ρ' a' hA0 hi'
    exact ⟨G1, ρ1, k1, fr1, H1, hQ, h1, hi1, hst.trans hs1 (fun _ h => h)⟩
theorem M_for {X : Type} {x : Code} (hc : cat c p = .loop x) (kx : Nat) (frx : X → Fr) (Hx : X → Heap) (inv : X → Prop) (μ : X → Nat) (x0 : X) (hs : Mv kb k fr H kx (frx x0) (Hx x0)) (h0 : inv x0)
    (round : ∀ x, inv x → W P Γ nt kb (cat c (0 :: p)) (thenQ (fun k' fr' H' => ∃ y, inv y ∧ μ y < μ x ∧ Mv kb k' fr' H' kx (frx y) (Hx y)) Q) kx (frx x) (Hx x)) : W P Γ nt kb (cat c p) Q k fr H := by
  refine W_mv hs ?_
  refine C_loop hc (fun m k' fr' H' => ∃ y, inv y ∧ μ y ≤ m ∧ k' = kx ∧ fr' = frx y ∧ H' = Hx y) (μ x0) ⟨x0, h0, Nat.le_refl _, rfl, rfl, rfl⟩ ?_
  rintro m k' fr' H' ⟨y, hy, hm, rfl, rfl, rfl⟩
  refine W_upM (W_mono (round y hy) ?_)
  intro e k1 fr1 H1 hq
  cases e with
  | normal =>
    obtain ⟨z, hz, hlt, hw⟩ := hq
    exact ⟨_, _, _, hw, μ z, by omega, z, hz, Nat.le_refl _, rfl, rfl, rfl⟩
  | exit id => exact ⟨k1, fr1, H1, Mv.refl, hq⟩
  | goto l => exact ⟨k1, fr1, H1, Mv.refl, hq⟩
  | ret => exact ⟨k1, fr1, H1, Mv.refl, hq⟩
  | panic ch => exact ⟨k1, fr1, H1, Mv.refl, hq⟩
  | outgrown => exact ⟨k1, fr1, H1, Mv.refl, hq⟩
theorem M_mid {X : Type} {x y : Code} (hc : cat c p = .seq x y) (kx : Nat) (frx : X → Fr) (Hx : X → Heap) (inv : X → Prop)
    (h1 : W P Γ nt kb (cat c (0 :: p)) (thenQ (fun k' fr' H' => ∃ z, inv z ∧ Mv kb k' fr' H' kx (frx z) (Hx z)) Q) k fr H) (h2 : ∀ z, inv z → W P Γ nt kb (cat c (1 :: p)) Q kx (frx z) (Hx z)) : W P Γ nt kb (cat c p) Q k fr H := by
  refine C_seq hc (W_upM (W_mono h1 ?_))
  intro e k1 fr1 H1 hq
  cases e with
  | normal =>
    obtain ⟨z, hz, hw⟩ := hq
    exact ⟨_, _, _, hw, h2 z hz⟩
  | exit id => exact ⟨k1, fr1, H1, Mv.refl, hq⟩
  | goto l => exact ⟨k1, fr1, H1, Mv.refl, hq⟩
  | ret => exact ⟨k1, fr1, H1, Mv.refl, hq⟩
  | panic ch => exact ⟨k1, fr1, H1, Mv.refl, hq⟩
  | outgrown => exact ⟨k1, fr1, H1, Mv.refl, hq⟩
end
def accV (id : Nat) (l : List (List AVal)) : AVal := match l with
  | [] => .lit (.slice none 0 0)
  | _ :: _ => .sl id 0 l.length
def accH (id sz : Nat) (l : List (List AVal)) (H : Heap) : Heap := match l with
  | [] => H
  | _ :: _ => (id, ⟨sz, true, l⟩) :: H
theorem accV_nil {id : Nat} : accV id [] = .lit (.slice none 0 0) := rfl
theorem accV_cons {id : Nat} {x : List AVal} {l : List (List AVal)} : accV id (x :: l) = .sl id 0 (l.length + 1) := rfl
theorem accH_nil {id sz : Nat} {H : Heap} : accH id sz [] H = H := rfl
theorem accH_cons {id sz : Nat} {x : List AVal} {l : List (List AVal)} {H : Heap} : accH id sz (x :: l) H = (id, ⟨sz, true, x :: l⟩) :: H := rfl
end Go.AM
end
section
namespace Go.AM
inductive Tied2 (X Y : Prop) : Type | mk
inductive TiedF (f : Out → Prop) : Type | mk
inductive TiedC (f : Orc → List Orc → Prop) : Type | mk
inductive TiedR (all : Array Oper) (l : List Oper) (K : List Foot → Nat → Fr → Heap → Prop) : Type | mk
inductive TiedP (f : Out → List Orc → Prop) (X : Prop) : Type | mk
def gcaseS (g : Option Bool) (X Y : Prop) (_ : Tied2 X Y) : Prop := gcase g X Y
def ocaseS (g : Option Out) (f : Out → Prop) (_ : TiedF f) : Prop := ocase g f
def ccaseS (cs : List Orc) (f : Orc → List Orc → Prop) (_ : TiedC f) : Prop := ccase cs f
def pcaseS (g : Option (Out × List Orc)) (f : Out → List Orc → Prop) (X : Prop) (_ : TiedP f X) : Prop := pcase g f X
def RunS (P : Program) (Γ : List (Nat × List AVal)) (all : Array Oper) (l : List Oper) (cs : List Orc) (k : Nat) (fr : Fr) (H : Heap) (K : List Foot → Nat → Fr → Heap → Prop) (_ : TiedR all l K) : Prop := RunF P Γ all l cs k fr H K
section
variable {P : Program} {Γ : List (Nat × List AVal)} {all : Array Oper} {r : List Oper} {cs : List Orc} {k : Nat} {fr : Fr} {H : Heap} {K : List Foot → Nat → Fr → Heap → Prop} {o : Oper}
theorem s_rn {t : TiedR all [] K} : RunS P Γ all [] cs k fr H K t = K [] k fr H := rfl
theorem s_rc {t : TiedR all (o :: r) K} : RunS P Γ all (o :: r) cs k fr H K t = gcaseS (guardOf all fr o) (RunS P Γ all r (skipC o cs) k (putO fr o.dst (.lit undef)) H (fun tr => K (⟨[], [], k, k⟩ :: tr)) .mk)
      (pcaseS (rawAt o.dst cs) (fun out cs' => Good P Γ o (aeval Γ fr) (AM.look H) k out ∧ RunS P Γ all r cs' out.k (putO fr o.dst out.v) (setL H out.upd) (fun tr => K (⟨out.rds, out.upd.map (·.1), k, out.k⟩ :: tr)) .mk)
      (if isCall o = true then ccaseS cs (fun c cs' => CallReq P Γ o (aeval Γ fr) (AM.look H) k c ∧ RunS P Γ all r cs' (c.out k).k (putO fr o.dst (c.out k).v) (c.heap k H) (fun tr => K (⟨(c.out k).rds, (c.out k).upd.map (·.1), k, (c.out k).k⟩ :: tr)) .mk) .mk
      else ocaseS (aop P Γ o (aeval Γ fr) (AM.look H) k) (fun out => RunS P Γ all r cs out.k (putO fr o.dst out.v) (hupd (isStore o) H out.upd) (fun tr => K (⟨out.rds, out.upd.map (·.1), k, out.k⟩ :: tr)) .mk) .mk) .mk) .mk := rfl
theorem s_pn {f : Out → List Orc → Prop} {X : Prop} {t : TiedP f X} : pcaseS none f X t = X := rfl
theorem s_ps {x : Out × List Orc} {f : Out → List Orc → Prop} {X : Prop} {t : TiedP f X} : pcaseS (some x) f X t = f x.1 x.2 := rfl
theorem s_oc {out : Out} {f : Out → Prop} {t : TiedF f} : ocaseS (some out) f t = f out := rfl
theorem s_oi {c : Prop} [Decidable c] {out : Out} {f : Out → Prop} {t : TiedF f} : ocaseS (if c then some out else none) f t = (c ∧ f out) := e_oi
theorem s_gt {X Y : Prop} {t : Tied2 X Y} : gcaseS (some true) X Y t = Y := by simp [gcaseS, gcase]
theorem s_gf {X Y : Prop} {t : Tied2 X Y} : gcaseS (some false) X Y t = X := by simp [gcaseS, gcase]
theorem gs_both {b : Bool} {X Y : Prop} {t : Tied2 X Y} (ht : b = true → Y) (hf : b = false → X) : gcaseS (some b) X Y t := gc_both ht hf
theorem s_cc {c : Orc} {f : Orc → List Orc → Prop} {t : TiedC f} : ccaseS (c :: cs) f t = f c cs := rfl
end
section
variable {P : Program} {Γ : List (Nat × List AVal)} {nt kb : Nat} {Q : AQ} {k : Nat} {fr : Fr} {H : Heap} {c : Code} {p : List Nat}
theorem S_reg {id : Nat} {l : List Oper} (hc : cat c p = .region id l.toArray false) (keep : List Nat) (cs : List Orc) (hd : dstOk nt l.toArray = true)
    (h : ∀ K : List Foot → Nat → Fr → Heap → Prop, (∀ tr k' fr' H', (kb ≤ k' → Q .normal k' (restr keep fr') H') → K tr k' fr' H') → RunS P Γ l.toArray l cs k fr H K .mk) : W P Γ nt kb (cat c p) Q k fr H := C_reg hc keep cs hd h
theorem S_drw {id : Nat} {l : List Oper} (hc : cat c p = .region id l.toArray true) (keep : List Nat) (cs : List Orc) (hm : P.follows .mixedOrders = true) (hd : dstOk nt l.toArray = true)
    (h : ∀ K : List Foot → Nat → Fr → Heap → Prop, (∀ tr k' fr' H', drawOk l.toArray tr = true → (kb ≤ k' → Q .normal k' (restr keep fr') H') → K tr k' fr' H') → RunS P Γ l.toArray l cs k fr H K .mk) : W P Γ nt kb (cat c p) Q k fr H := C_drw hc keep cs hm hd h
end
attribute [go_sem] s_rn s_pn s_ps s_rc s_oc s_oi s_gt s_gf s_cc accV_nil accV_cons accH_nil accH_cons
end Go.AM
end
section
namespace Go.AM
section
variable {id j s : Nat} {l : List (List AVal)} {x : List AVal} {H H0 : Heap} {B : Blk}
theorem accV_snoc : accV id (l ++ [x]) = .sl id 0 (l.length + 1) := by cases l <;> simp [accV]
theorem accH_snoc : accH id s (l ++ [x]) H = (id, ⟨s, true, l ++ [x]⟩) :: H := by cases l <;> simp [accH]
theorem look_acc (h : id ≠ j) : AM.look (accH id s l H) j = AM.look H j := by cases l <;> simp [accH, AM.look, h]
theorem del_acc (h : id ≠ j) : del (accH id s l H) j = accH id s l (del H j) := by cases l <;> simp [accH, del, h]
def accIn (H : Heap) (id s : Nat) (l : List (List AVal)) : Prop := l ≠ [] → AM.look H id = some ⟨s, true, l⟩
theorem accIn_self : accIn (accH id s l H) id s l = True := by
  simp only [accIn, eq_iff_iff, iff_true]
  intro h; cases l with
  | nil => exact absurd rfl h
  | cons a r => simp [accH, AM.look]
theorem accIn_cons (h : j ≠ id) : accIn ((j, B) :: H) id s l = accIn H id s l := by simp [accIn, AM.look, h]
theorem accIn_acc {j t : Nat} {m : List (List AVal)} (h : j ≠ id) : accIn (accH j t m H) id s l = accIn H id s l := by simp [accIn, look_acc h]
theorem accIn_hd : accIn ((id, ⟨s, true, l⟩) :: H) id s l = True := by simp [accIn, AM.look]
theorem leH_acc : leH H0 (accH id s l H) = (accIn H0 id s l ∧ leH H0 H) := by
  cases l with
  | nil => simp [accIn, accH]
  | cons a r => simp [accIn, accH, leH]
theorem bdH_acc {p : Nat → Bool} (h : p id = true) : bdH p (accH id s l H) = bdH p H := by cases l <;> simp [accH, bdH, h]
theorem bd_acc {p : Nat → Bool} (h : p id = true) : bd p (accV id l) = true := by cases l <;> simp [accV, bd, bd1, bd0, h]
theorem bd0_acc {p : Nat → Bool} (h : p id = true) : bd0 p (accV id l) = true := by cases l <;> simp [accV, bd0, h]
theorem sw0_acc {a b : Nat} : sw0 a b (accV id l) = accV (sw a b id) l := by cases l <;> simp [accV, sw0]
theorem swH_acc {a b : Nat} : swH a b (accH id s l H) = accH (sw a b id) s l (swH a b H) := by cases l <;> simp [accH, swH, swB]
theorem c_1 {a b : Nat} {v : Value} : sw2 a b (.lit v) = .lit v := rfl
theorem c_2 {a b i r c : Nat} : sw2 a b (.ptr i r c) = .ptr (sw a b i) r c := rfl
theorem c_3 {a b i r c : Nat} : sw2 a b (.sl i r c) = .sl (sw a b i) r c := rfl
theorem c_4 {a b : Nat} {cs : List AVal} : sw2 a b (.agg cs) = .agg (cs.map (sw0 a b)) := rfl
theorem c_6 {a b i n : Nat} {f : Nat → List AVal} : sw2 a b (.rd i n f) = .rd i n f := rfl
theorem c_7 {a b : Nat} {g : FuncId} {cs : List AVal} : sw2 a b (.fn g cs) = .fn g (cs.map (sw0 a b)) := rfl
theorem c_11 {a b : Nat} {v : Value} : sw0 a b (.lit v) = .lit v := rfl
theorem c_12 {a b i r c : Nat} : sw0 a b (.ptr i r c) = .ptr (sw a b i) r c := rfl
theorem c_13 {a b i r c : Nat} : sw0 a b (.sl i r c) = .sl (sw a b i) r c := rfl
theorem c_16 {a b i n : Nat} {f : Nat → List AVal} : sw0 a b (.rd i n f) = .rd i n f := rfl
theorem swH_cons {a b : Nat} : swH a b ((id, B) :: H) = (sw a b id, swB a b B) :: swH a b H := rfl
theorem swH_nil {a b : Nat} : swH a b [] = [] := rfl
theorem swB_pure {a b sz : Nat} {rows : List (List AVal)} : swB a b ⟨sz, true, rows⟩ = ⟨sz, true, rows⟩ := rfl
theorem swB_not {a b sz : Nat} {rows : List (List AVal)} : swB a b ⟨sz, false, rows⟩ = ⟨sz, false, rows.map fun row => row.map (sw0 a b)⟩ := rfl
theorem swF_cons {a b t : Nat} {v : AVal} {fr : Fr} : swF a b ((t, v) :: fr) = (t, sw2 a b v) :: swF a b fr := rfl
theorem swF_nil {a b : Nat} : swF a b [] = [] := rfl
end
section
variable {P : Program} {Γ : List (Nat × List AVal)} {nt kb : Nat} {Q : AQ} {k : Nat} {fr : Fr} {H : Heap} {c : Code} {p : List Nat}
theorem Mv.app (a b : Nat) {k1 : Nat} {fr1 : Fr} {H1 : Heap} (ha : kb ≤ a ∧ a < k) (hb : kb ≤ b ∧ b < k) (h : WkG kb k (swF a b fr) (swH a b H) k1 fr1 H1) : Mv kb k fr H k1 fr1 H1 := (Mv.swap a b ha hb).trans (Mv.wk h)
theorem wk_low {k1 : Nat} {fr1 : Fr} {H1 : Heap} (hb : kb ≤ k1) (hf : leF fr fr1) (hH : leH H H1) (h : bdF (ltB k1) fr1 = true) (h' : bdH (ltB k1) H1 = true) : WkG kb k fr H k1 fr1 H1 := wk_of hb hf hH (.inr ⟨h, h'⟩)
end
attribute [go_sem] accV_snoc accH_snoc look_acc del_acc accIn_self accIn_hd accIn_cons accIn_acc leH_acc sw0_acc swH_acc swH_cons swH_nil swB_pure swB_not swF_cons swF_nil sw c_1 c_2 c_3 c_4 c_6 c_7 c_11 c_12 c_13 c_16 bdH_acc bd_acc bd0_acc
end Go.AM
end
section
namespace Go.AM
def rows (s : Nat) (l : List (List AVal)) : AVal := .rd s l.length (fun i => l.getD i [])
section
variable {P : Program} {Γ : List (Nat × List AVal)} {nt kb : Nat} {Q : AQ} {k : Nat} {fr : Fr} {H : Heap} {c : Code} {p : List Nat}
theorem VLe.nil (s : Nat) (f : Nat → List AVal) : VLe (.lit (.slice none 0 0)) (.rd s 0 f) := fun w G ρ A cv hv => by
  cases hv; exact .rd0
theorem Mv.frz_acc {id s : Nat} {l : List (List AVal)} (t : Nat) (hf : look fr t = some (accV id l)) (hH : accIn H id s l) : Mv kb k fr H k [(t, rows s l)] [] := by
  cases l with
  | nil =>
    refine fun hk => Mv.wk ⟨hk, fun t' v hv => ?_, fun i B hB => by simp [look] at hB, .inl rfl⟩ hk
    simp only [look] at hv
    split at hv
    · rename_i he; subst he; cases hv
      exact ⟨_, hf, VLe.nil _ _⟩
    · cases hv
  | cons x r =>
    have h1 := hH (by simp)
    refine Mv.trans (Mv.freeze id h1 rfl) (fun hk => Mv.wk ⟨hk, fun t' v hv => ?_, fun i B hB => by simp [look] at hB, .inl rfl⟩ hk)
    simp only [look] at hv
    split at hv
    · rename_i he; subst he; cases hv
      refine ⟨_, by unfold frzF; rw [look_map, hf]; rfl, ?_⟩
      simp only [accV, frz, frz0, rows, Nat.zero_add, Nat.le_refl, and_self, if_true]
      exact VLe.refl _
    · cases hv
end
end Go.AM
end
section
namespace Go.AM
def sh (f : Foot) : Bool × Bool := (!f.rds.isEmpty, !f.mods.isEmpty)
def clashS (ops : Array Oper) (oj : Oper) (fj : Bool × Bool) (oi : Oper) (fi : Bool × Bool) : Bool :=
  meets (dstL oj) (readsOf ops oi) || meets (dstL oj) (dstL oi) || meets (dstL oi) (readsOf ops oj) || (fj.2 && fi.1) || (fj.2 && fi.2) || (fj.1 && fi.2)
def drawS (ops : Array Oper) (tr : List (Bool × Bool)) : Bool :=
  (List.range ops.size).all fun i => match ops[i]?, tr[i]? with
    | some oi, some fi => (oi.after.toList.all fun e => !Region.binds .any e || decide (e.on < i)) &&
        (List.range i).all fun j => match ops[j]?, tr[j]? with
          | some oj, some fj => !clashS ops oj fj oi fi || befB ops ops.size j i
          | _, _ => false
    | _, _ => false
theorem meets_ne {a b : List Nat} (h : meets a b = true) : (!a.isEmpty) = true ∧ (!b.isEmpty) = true := by
  cases a with
  | nil => simp [meets] at h
  | cons x r => cases b with
    | nil => simp [meets] at h
    | cons y q => simp
theorem clash_S {ops : Array Oper} {oj oi : Oper} {fj fi : Foot} (h : clashS ops oj (sh fj) oi (sh fi) = false) : clash ops oj fj oi fi = false := by
  simp only [clashS, Bool.or_eq_false_iff, sh] at h
  simp only [clash, Bool.or_eq_false_iff]
  obtain ⟨⟨⟨⟨⟨h1, h2⟩, h3⟩, h4⟩, h5⟩, h6⟩ := h
  refine ⟨⟨⟨⟨⟨h1, h2⟩, h3⟩, ?_⟩, ?_⟩, ?_⟩
  · cases hm : meets fj.mods fi.rds with
    | false => rfl
    | true => obtain ⟨a, b⟩ := meets_ne hm; rw [a, b] at h4; cases h4
  · cases hm : meets fj.mods fi.mods with
    | false => rfl
    | true => obtain ⟨a, b⟩ := meets_ne hm; rw [a, b] at h5; cases h5
  · cases hm : meets fj.rds fi.mods with
    | false => rfl
    | true => obtain ⟨a, b⟩ := meets_ne hm; rw [a, b] at h6; cases h6
theorem drawOk_of {ops : Array Oper} {tr : List Foot} (h : drawS ops (tr.map sh) = true) (hm : (tr.all fun f => f.mods.all fun x => decide (x < f.k')) = true) : drawOk ops tr = true := by
  simp only [drawS, List.all_eq_true] at h
  simp only [drawOk, List.all_eq_true]
  intro i hi
  have h1 := h i hi
  rw [List.getElem?_map] at h1
  cases ho : ops[i]? with
  | none => rw [ho] at h1; simp at h1
  | some oi =>
    cases ht : tr[i]? with
    | none => rw [ho, ht] at h1; simp at h1
    | some fi =>
      rw [ho, ht] at h1
      simp only [Option.map_some, Bool.and_eq_true, List.all_eq_true] at h1
      simp only [Bool.and_eq_true, List.all_eq_true]
      refine ⟨⟨h1.1, ?_⟩, fun j hj => ?_⟩
      · have := List.all_eq_true.1 hm fi (List.mem_of_getElem? ht)
        exact fun x hx => List.all_eq_true.1 this x hx
      · have h2 := h1.2 j hj
        rw [List.getElem?_map] at h2
        cases hoj : ops[j]? with
        | none => rw [hoj] at h2; simp at h2
        | some oj =>
          cases htj : tr[j]? with
          | none => rw [hoj, htj] at h2; simp at h2
          | some fj =>
            rw [hoj, htj] at h2
            simp only [Option.map_some, Bool.or_eq_true, Bool.not_eq_true'] at h2
            simp only [Bool.or_eq_true, Bool.not_eq_true']
            rcases h2 with h2 | h2
            · exact .inl (clash_S h2)
            · exact .inr h2
end Go.AM
end
section
namespace Go.AM
section
variable {P : Program} {Γ : List (Nat × List AVal)} {nt kb : Nat} {Q : AQ} {k : Nat} {fr : Fr} {H : Heap} {c : Code} {p : List Nat}
theorem Mv.fresh (f : Nat) (hf : f < k) : Mv kb k fr H (k + 1) (swF f k fr) (swH f k H) := fun hk => ⟨by omega, fun Γ nt A0 w G ρ ac hA hi => by
  have hAk : ¬ alw A0 kb k k := fun h => by
    rcases h with h | h
    · have := hA _ h; omega
    · omega
  have hal : ∀ i, alw A0 kb k (sw f k i) → alw A0 kb (k + 1) i := fun i h => by
    by_cases h1 : i = f
    · subst h1; simp only [sw, if_true] at h; exact absurd h hAk
    · by_cases h2 : i = k
      · subst h2; exact .inr ⟨hk, by omega⟩
      · rw [sw_ne h1 h2] at h
        rcases h with h | h
        · exact .inl h
        · exact .inr ⟨h.1, by omega⟩
  have hρk : ρ k = none := by
    cases hl : look H k with
    | none => exact hi.rel.dom k (by simp [ofHeap, hl])
    | some B => exact absurd (hi.rel.blk k B (alw A0 kb k) (by simp only [ofHeap, hl, Option.map_some])).1 hAk
  have hV : ∀ v u cv, V w G (fun i => ρ (sw f k i)) (fun i => alw A0 kb k (sw f k i)) v cv → u = v → V w G (fun i => ρ (sw f k i)) (alw A0 kb (k + 1)) u cv := fun v u cv h e => by
    subst e; exact h.mono (fun _ h => h) (fun _ _ => rfl) (fun _ _ => rfl) hal (fun _ _ => .inr rfl)
  refine ⟨G, fun i => ρ (sw f k i), ⟨⟨fun id h => ?_, fun id B A h => ?_, fun i j x s t h1 h2 => ?_, hi.rel.ro, hi.rel.glob⟩, hi.size, hi.defers, fun t v hv => ?_⟩, ⟨Nat.le_refl _, fun _ _ _ => rfl, fun _ _ => rfl, fun _ h => h, fun _ h => .inl h, ?_, fun id h => ?_, rfl, rfl, rfl⟩⟩
  · simp only [ofHeap, Option.map_eq_none_iff, look_swH] at h
    exact hi.rel.dom _ (by simp [ofHeap, h])
  · simp only [ofHeap, Option.map_eq_some_iff, look_swH] at h
    obtain ⟨B', ⟨C, hC, rfl⟩, he⟩ := h
    cases he
    obtain ⟨h1, x, h2, h3, h4⟩ := hi.rel.blk (sw f k id) C _ (by simp only [ofHeap, hC, Option.map_some]; rfl)
    have hsz : (swB f k C).sz = C.sz := by unfold swB; split <;> rfl
    refine ⟨hal id h1, x, by rw [hsz]; exact h2, h3, ?_⟩
    obtain ⟨⟨Cs, ty, hCs, hrows⟩, hlen⟩ := h4
    unfold swB
    split
    · rename_i hp
      refine ⟨⟨Cs, ty, hCs, fun r row c v h5 h6 => ?_⟩, hlen⟩
      obtain ⟨cv, h9, h10⟩ := hrows r row c v h5 h6
      simp only [hp, if_true] at h10 ⊢
      exact ⟨cv, h9, h10⟩
    · rename_i hp
      refine ⟨⟨Cs, ty, hCs, fun r row c v h5 h6 => ?_⟩, fun r row h5 => ?_⟩
      · rw [List.getElem?_map, Option.map_eq_some_iff] at h5
        obtain ⟨row0, h7, rfl⟩ := h5
        rw [List.getElem?_map, Option.map_eq_some_iff] at h6
        obtain ⟨v0, h8, rfl⟩ := h6
        obtain ⟨cv, h9, h10⟩ := hrows r row0 c v0 h7 h8
        simp only [hp] at h10
        exact ⟨cv, h9, by simp only [Bool.false_eq_true, if_false]; exact hV _ _ _ (sw0_V h10) rfl⟩
      · rw [List.getElem?_map, Option.map_eq_some_iff] at h5
        obtain ⟨row0, h7, rfl⟩ := h5
        simpa using hlen r row0 h7
  · exact sw_inj (hi.rel.inj _ _ _ _ _ h1 h2)
  · unfold swF at hv
    rw [look_map, Option.map_eq_some_iff] at hv
    obtain ⟨u, hu, rfl⟩ := hv
    exact hV _ _ _ (sw2_V (hi.frm t u hu)) rfl
  · rintro x ⟨i, s, hx⟩; exact .inl ⟨_, s, hx⟩
  · have h' : id < kb := h
    by_cases h1 : id = f
    · subst h1; exact .inl (by show ρ (sw id k id) = none; simp only [sw, if_true]; exact hρk)
    · exact .inr (by show ρ (sw f k id) = ρ id; rw [sw_ne h1 (by omega)])⟩
def roundsW (P : Program) (Γ : List (Nat × List AVal)) (nt kb : Nat) (c : Code) (Q : AQ) : Nat → Nat → Fr → Heap → Prop
  | 0, _, _, _ => False
  | n + 1, k, fr, H => W P Γ nt kb c (thenQ (roundsW P Γ nt kb c Q n) Q) k fr H
theorem W_rounds {x : Code} (n : Nat) (h : roundsW P Γ nt kb x Q n k fr H) : W P Γ nt kb (.loop x) Q k fr H := by
  refine W_loop (fun m k fr H => roundsW P Γ nt kb x Q m k fr H) n h ?_
  intro m k fr H h
  cases m with
  | zero => exact h.elim
  | succ m =>
    refine W_mono h fun e k1 fr1 H1 hq => ?_
    cases e with
    | normal => exact ⟨m, by omega, hq⟩
    | _ => exact hq
def ovr (keep : List Nat) (u : Fr) : Fr → Fr
  | [] => u
  | (t, v) :: r => if keep.contains t = true ∧ (look u t).isSome = false then (t, v) :: ovr keep u r else ovr keep u r
theorem ovr_nil {keep : List Nat} {u : Fr} : ovr keep u [] = u := rfl
theorem ovr_cons {keep : List Nat} {u : Fr} {t : Nat} {v : AVal} {r : Fr} : ovr keep u ((t, v) :: r) = if keep.contains t = true ∧ (look u t).isSome = false then (t, v) :: ovr keep u r else ovr keep u r := rfl
end
theorem M_forO {P : Program} {Γ : List (Nat × List AVal)} {nt kb : Nat} {Q : AQ} {k : Nat} {fr : Fr} {H : Heap} {c : Code} {p : List Nat} {X : Type} {x : Code} (hc : cat c p = .loop x) (keep : List Nat) (kx : Nat) (u : X → Fr) (Hx : X → Heap) (inv : X → Prop) (μ : X → Nat) (x0 : X)
    (hs : Mv kb k fr H kx (ovr keep (u x0) fr) (Hx x0)) (h0 : inv x0)
    (round : ∀ x, inv x → W P Γ nt kb (cat c (0 :: p)) (thenQ (fun k' fr' H' => ∃ y, inv y ∧ μ y < μ x ∧ Mv kb k' fr' H' kx (ovr keep (u y) fr) (Hx y)) Q) kx (ovr keep (u x) fr) (Hx x)) : W P Γ nt kb (cat c p) Q k fr H := M_for hc kx (fun x => ovr keep (u x) fr) Hx inv μ x0 hs h0 round
theorem M_midO {P : Program} {Γ : List (Nat × List AVal)} {nt kb : Nat} {Q : AQ} {k : Nat} {fr : Fr} {H : Heap} {c : Code} {p : List Nat} {X : Type} {x y : Code} (hc : cat c p = .seq x y) (keep : List Nat) (kx : Nat) (u : X → Fr) (Hx : X → Heap) (inv : X → Prop)
    (h1 : W P Γ nt kb (cat c (0 :: p)) (thenQ (fun k' fr' H' => ∃ z, inv z ∧ Mv kb k' fr' H' kx (ovr keep (u z) fr) (Hx z)) Q) k fr H) (h2 : ∀ z, inv z → W P Γ nt kb (cat c (1 :: p)) Q kx (ovr keep (u z) fr) (Hx z)) : W P Γ nt kb (cat c p) Q k fr H := M_mid hc kx (fun z => ovr keep (u z) fr) Hx inv h1 h2
theorem c_0 : ((0 : Nat) : Int) = 0 := rfl
theorem c_S {n : Nat} : ((n + 1 : Nat) : Int) = (n : Int) + 1 := rfl
attribute [go_sem] c_0 c_S
theorem wrap_u32 {n : Int} (h1 : 0 ≤ n) (h2 : n < 4294967296) : IntKind.u32.wrap n = n := by rw [IntKind.wrap_u32]; omega
theorem wrap_u64 {n : Int} (h1 : 0 ≤ n) (h2 : n < 18446744073709551616) : IntKind.u64.wrap n = n := by simp [IntKind.wrap, IntKind.bits, IntKind.signed]; omega
theorem wrap_u8 {n : Int} (h1 : 0 ≤ n) (h2 : n < 256) : IntKind.u8.wrap n = n := by simp [IntKind.wrap, IntKind.bits, IntKind.signed]; omega
def accDel (id : Nat) (l : List (List AVal)) : List (Nat × Option Blk) := match l with
  | [] => []
  | _ :: _ => [(id, none)]
def accRds (id : Nat) (l : List (List AVal)) : List Nat := match l with
  | [] => []
  | _ :: _ => [id]
def appV (k : Nat) (l rows : List (List AVal)) (m : Nat) : AVal := if rows.length = m ∧ 0 < m then accV k (l ++ rows) else .sl k 0 (l.length + m)
theorem e_appV {k : Nat} {l : List (List AVal)} {x : List AVal} : appV k l [x] 1 = accV k (l ++ [x]) := by simp [appV]
theorem appV_eq (k : Nat) (l rows : List (List AVal)) (m : Nat) : appV k l rows m = .sl k 0 (l.length + m) := by
  unfold appV
  split
  · rename_i h
    cases rows with
    | nil => simp at h; omega
    | cons a r =>
      cases l with
      | nil => simp [accV, ← h.1]
      | cons b q => simp [accV, ← h.1, Nat.add_assoc, Nat.add_comm 1]
  · rfl
def appR (s by' k id : Nat) (l : List (List AVal)) (src : Option (Nat × Nat × List (List AVal) × Bool × List Nat)) : Option Out :=
  match src with
  | some (s', m, rows, p, ids) => if m = 0 then some ⟨accV id l, k, [], accRds id l ++ ids⟩ else if s' = s ∧ 0 < m ∧ l.length + m ≤ 9223372036854775807 ∧ (l.length + m) * by' ≤ 140737488355328 ∧ (rows.all fun row => row.all one) = true then
      some ⟨appV k l rows m, k + 1, (k, some ⟨s, p, l ++ rows⟩) :: accDel id l, accRds id l ++ ids⟩ else none
  | none => none
theorem e_appR {s by' k id : Nat} {l : List (List AVal)} {s' m : Nat} {rows : List (List AVal)} {p : Bool} {ids : List Nat} : appR s by' k id l (some (s', m, rows, p, ids)) =
    if m = 0 then some ⟨accV id l, k, [], accRds id l ++ ids⟩ else if s' = s ∧ 0 < m ∧ l.length + m ≤ 9223372036854775807 ∧ (l.length + m) * by' ≤ 140737488355328 ∧ (rows.all fun row => row.all one) = true then
      some ⟨appV k l rows m, k + 1, (k, some ⟨s, p, l ++ rows⟩) :: accDel id l, accRds id l ++ ids⟩ else none := rfl
theorem app_acc {P : Program} {t s by' : Nat} {z : List AVal} {H0 : Heap} {k id : Nat} {l : List (List AVal)} {y : Option AVal} (hz : ezero P t = some (s, by', z)) (hin : accIn H0 id s l) (hid : id < k) :
    aAppend P (AM.look H0) k t (some (accV id l)) y = appR s by' k id l (y.bind (aSrc (AM.look H0))) := by
  cases hy : y.bind (aSrc (AM.look H0)) with
  | none => cases l <;> simp [accV, aAppend, hz, hy, appR]
  | some x =>
    obtain ⟨s', m, rows, p, ids⟩ := x
    rw [e_appR, appV_eq]
    cases l with
    | nil => simp [accV, aAppend, hz, hy, accDel, accRds]
    | cons b q =>
      have hl := hin (by simp)
      simp [accV, aAppend, hz, hy, hl, accDel, accRds, hid]
theorem updH_acc {id s : Nat} {l : List (List AVal)} {H : Heap} (h : del H id = H) : updH (accH id s l H) (accDel id l) = H := by
  cases l with
  | nil => rfl
  | cons a r => simp [accH, accDel, updH, del, h]
theorem updH_acc1 {id : Nat} {l : List (List AVal)} {H : Heap} {j : Nat} {B : Blk} (hj : j ≠ id) : updH ((j, B) :: H) (accDel id l) = (j, B) :: updH H (accDel id l) := by
  cases l with
  | nil => rfl
  | cons a r => simp [accDel, updH, del, hj]
attribute [go_sem] ovr_nil ovr_cons e_appV e_appR updH_acc updH_acc1
end Go.AM
end
section
namespace Go.AM
structure Ev where
  call : FuncId → Nat → List AVal → Heap → Option (Nat × AVal × Heap)
  loop : Nat → Code → Nat → Fr → Heap → Option (Exit × Nat × Fr × Heap)
def nm0 : AVal → List Nat
  | .ptr i _ _ => [i]
  | .sl i _ _ => [i]
  | .slc i _ _ _ => [i]
  | .bfn _ i _ _ => [i]
  | .mp i => [i]
  | .it i => [i]
  | _ => []
def nm1 : AVal → List Nat
  | .agg cs => cs.flatMap nm0
  | .fn _ cs => cs.flatMap nm0
  | v => nm0 v
def nm2 : AVal → List Nat
  | .tup cs => cs.flatMap nm1
  | v => nm1 v
def hasN : List Nat → Nat → Bool
  | [], _ => false
  | a :: r, i => Nat.beq a i || hasN r i
def lookN {α : Type} : List (Nat × α) → Nat → Option α
  | [], _ => none
  | (a, x) :: r, k => match Nat.beq a k with
    | true => some x
    | false => lookN r k
theorem lookN_eq {α : Type} : ∀ (l : List (Nat × α)) (i : Nat), lookN l i = look l i
  | [], i => rfl
  | (a, x) :: r, i => by
    simp only [lookN, look]
    by_cases h : a = i
    · subst h; simp
    · have : Nat.beq a i = false := by rw [Bool.eq_false_iff]; exact fun hb => h (Nat.eq_of_beq_eq_true hb)
      rw [this, if_neg h]; exact lookN_eq r i
def reach (H : Heap) : Nat → List Nat → List Nat → List Nat
  | 0, _, seen => seen
  | _ + 1, [], seen => seen
  | n + 1, i :: r, seen => match hasN seen i with
    | true => reach H n r seen
    | false => match lookN H i with
      | some B => match B.pure with
        | true => reach H n r (i :: seen)
        | false => reach H n ((B.rows.flatMap fun row => row.flatMap nm0) ++ r) (i :: seen)
      | none => reach H n r seen
def subH (p : List Nat) : Heap → Heap
  | [] => []
  | (i, B) :: r => match hasN p i with
    | true => (i, B) :: subH p r
    | false => subH p r
theorem look_subH (p : List Nat) : ∀ (H : Heap) (i : Nat) (B : Blk), look (subH p H) i = some B → look H i = some B
  | [], i, B, h => by simp [subH, look] at h
  | (j, C) :: r, i, B, h => by
    simp only [subH] at h
    cases hp : hasN p j with
    | true =>
      rw [hp] at h
      simp only [look] at h ⊢
      split at h
      · rename_i he; rw [if_pos he]; exact h
      · rename_i he; rw [if_neg he]; exact look_subH p r i B h
    | false =>
      rw [hp] at h
      have h1 := look_subH p r i B h
      simp only [look]
      split
      · rename_i he
        subst he
        exfalso
        have : ∀ (l : Heap), look (subH p l) j = none := by
          intro l
          induction l with
          | nil => rfl
          | cons y ys ih =>
            obtain ⟨b, D⟩ := y
            simp only [subH]
            cases hb : hasN p b with
            | true =>
              simp only [look]
              split
              · rename_i e; subst e; rw [hp] at hb; cases hb
              · exact ih
            | false => exact ih
        rw [this r] at h; cases h
      · exact h1
def sameV : AVal → AVal → Bool
  | .lit (.int k a), .lit (.int k' b) => decide (k = k') && decide (a = b)
  | .lit (.bool a), .lit (.bool b) => a == b
  | .lit (.pointer none), .lit (.pointer none) => true
  | _, _ => false
theorem sameV_eq {a b : AVal} (h : sameV a b = true) : a = b := by
  unfold sameV at h
  split at h
  · simp only [Bool.and_eq_true, decide_eq_true_eq] at h; rw [h.1, h.2]
  · simp only [beq_iff_eq] at h; rw [h]
  · rfl
  · cases h
def sameL {α : Type} (f : α → α → Bool) : List α → List α → Bool
  | [], [] => true
  | a :: r, b :: q => f a b && sameL f r q
  | _, _ => false
theorem sameL_eq {α : Type} {f : α → α → Bool} (hf : ∀ a b, f a b = true → a = b) : ∀ {l m : List α}, sameL f l m = true → l = m
  | [], [], _ => rfl
  | a :: r, b :: q, h => by
    simp only [sameL, Bool.and_eq_true] at h
    rw [hf _ _ h.1, sameL_eq hf h.2]
  | [], _ :: _, h => by simp [sameL] at h
  | _ :: _, [], h => by simp [sameL] at h
def sameB (B C : Blk) : Bool := (B.pure && C.pure) && (Nat.beq B.sz C.sz && sameL (sameL sameV) B.rows C.rows)
theorem sameB_eq {B C : Blk} (h : sameB B C = true) : B = C ∧ B.pure = true := by
  simp only [sameB, Bool.and_eq_true] at h
  obtain ⟨⟨h1, h2⟩, h3, h4⟩ := h
  refine ⟨?_, h1⟩
  cases B; cases C
  simp only at h1 h2 h3 h4
  rw [h1, h2, Nat.eq_of_beq_eq_true h3, sameL_eq (fun a b h => sameL_eq (fun _ _ => sameV_eq) h) h4]
def isSame (Hc Hout : Heap) (i : Nat) : Bool :=
  match lookN Hc i with
  | some B => match lookN Hout i with
    | some C => sameB B C
    | none => false
  | none => false
def sameIds (Hc Hout : Heap) : Heap → List Nat
  | [] => []
  | (i, _) :: r => match isSame Hc Hout i with
    | true => i :: sameIds Hc Hout r
    | false => sameIds Hc Hout r
theorem sameIds_mem {Hc Hout : Heap} {id : Nat} : ∀ {H : Heap}, id ∈ sameIds Hc Hout H → ∃ B, look Hc id = some B ∧ look Hout id = some B ∧ B.pure = true
  | [], h => by simp [sameIds] at h
  | (i, B) :: r, h => by
    simp only [sameIds] at h
    split at h
    · rename_i hs
      rcases List.mem_cons.1 h with rfl | h
      · unfold isSame at hs
        rw [lookN_eq, lookN_eq] at hs
        split at hs
        · rename_i B' hB
          split at hs
          · rename_i C hC
            obtain ⟨rfl, hp⟩ := sameB_eq hs
            exact ⟨B', hB, hC, hp⟩
          · cases hs
        · cases hs
      · exact sameIds_mem h
    · exact sameIds_mem h
def cutU (same : List Nat) : List (Nat × Option Blk) → List (Nat × Option Blk)
  | [] => []
  | (i, B) :: r => match hasN same i with
    | true => cutU same r
    | false => (i, B) :: cutU same r
theorem hasN_iff {l : List Nat} {i : Nat} : hasN l i = true ↔ i ∈ l := by
  induction l with
  | nil => simp [hasN]
  | cons a r ih =>
    simp only [hasN, Bool.or_eq_true, ih, List.mem_cons]
    constructor
    · rintro (h | h)
      · exact .inl (Nat.eq_of_beq_eq_true h).symm
      · exact .inr h
    · rintro (h | h)
      · exact .inl (by rw [h]; simp)
      · exact .inr h
theorem updO_cut {H : Owner} {A : Allow} {same : List Nat} {id : Nat} : ∀ (u : List (Nat × Option Blk)), updO H A (cutU same u) id = if hasN same id = true then H id else updO H A u id
  | [] => by simp [cutU, updO]
  | (i, B) :: r => by
    have ih := updO_cut (H := H) (A := A) (same := same) (id := id) r
    simp only [cutU]
    cases hs : hasN same i with
    | true =>
      rw [ih]
      by_cases hi : hasN same id = true
      · simp only [hi, if_true]
      · simp only [hi]
        have : id ≠ i := fun e => hi (e ▸ hs)
        cases B <;> simp [updO, this]
    | false =>
      by_cases he : id = i
      · subst he
        cases B <;> simp [updO, hs]
      · cases B <;> simp [updO, he, ih]
theorem good_same {P : Program} {Γ : List (Nat × List AVal)} {o : Oper} {ev : Operand → Option AVal} {get : Nat → Option Blk} {k k' : Nat} {v : AVal} {Hc Hout : Heap} {same : List Nat} (hs : ∀ id, id ∈ same → ∃ B, look Hc id = some B ∧ get id = some B ∧ look Hout id = some B ∧ B.pure = true) (h : Good P Γ o ev get k (callOut v k' Hc Hout)) : Good P Γ o ev get k ⟨v, k', cutU same (callOut v k' Hc Hout).upd, Hc.map (·.1)⟩ := by
  refine ⟨?_, h.rds, h.le⟩
  intro w G ρ H A a hr hA hf hrd hop next Q hn
  refine h.ok w G ρ H A a hr hA hf hrd hop next Q fun w' G' ρ' cv hrel hv hst => hn w' G' ρ' cv ?_ hv hst
  have hold : ∀ id, hasN same id = true → ∃ B A', H id = some (B, A') ∧ updO H (fun i => A i ∨ (k ≤ i ∧ i < k')) (callOut v k' Hc Hout).upd id = some (B, fun i => A i ∨ (k ≤ i ∧ i < k')) ∧ B.pure = true ∧ A' id := fun id hid => by
    obtain ⟨B, h1, h2, h3, h4⟩ := hs id (hasN_iff.1 hid)
    obtain ⟨B', A', h5, h6, h7⟩ := hrd id (by simp only [callOut, List.mem_map]; exact ⟨(id, B), look_mem h1, rfl⟩)
    rw [h2] at h5; cases h5
    refine ⟨B, A', h6, ?_, h4, (hr.blk id B A' h6).1⟩
    have hm := modOf_call Hc Hout id
    rw [h3] at hm
    rw [updO_modOf]
    have hm' : modOf (callOut v k' Hc Hout).upd id = some (some B) := hm
    rw [hm']; rfl
  refine ⟨fun id hid => ?_, fun id B A1 hid => ?_, hrel.inj, hrel.ro, hrel.glob⟩
  · change updO H (fun i => A i ∨ (k ≤ i ∧ i < k')) (cutU same (callOut v k' Hc Hout).upd) id = none at hid
    rw [updO_cut] at hid
    by_cases hi : hasN same id = true
    · obtain ⟨B, A', h1, _⟩ := hold id hi
      rw [if_pos hi, h1] at hid; cases hid
    · rw [if_neg hi] at hid; exact hrel.dom id hid
  · change updO H (fun i => A i ∨ (k ≤ i ∧ i < k')) (cutU same (callOut v k' Hc Hout).upd) id = some (B, A1) at hid
    rw [updO_cut] at hid
    by_cases hi : hasN same id = true
    · obtain ⟨B', A', h1, h2, h3, h4⟩ := hold id hi
      rw [if_pos hi, h1] at hid; cases hid
      obtain ⟨_, b, h6, h7, h8⟩ := hrel.blk id B _ h2
      refine ⟨h4, b, h6, h7, ⟨?_, h8.len⟩⟩
      have h9 := h8.ex
      simp only [h3, if_true] at h9 ⊢
      exact h9
    · rw [if_neg hi] at hid; exact hrel.blk id B A1 hid
def evCall (e : Ev) (P : Program) (o : Oper) (ev : Operand → Option AVal) (H : Heap) (k : Nat) : Option Out :=
  match o.op with
  | .call { callee := .value f, args := args, argTypes := _ } => match ev f, evArgs ev args.toList with
    | some (.fn g caps), some vs =>
      match callable P g && ((vs ++ caps).all (bd (hasN (reach H 100000 ((vs ++ caps).flatMap nm2) []))) && bdH (keyB (subH (reach H 100000 ((vs ++ caps).flatMap nm2) []) H)) (subH (reach H 100000 ((vs ++ caps).flatMap nm2) []) H)) && ((vs ++ caps).all (bd (keyB (subH (reach H 100000 ((vs ++ caps).flatMap nm2) []) H)))) with
      | true => match e.call g k (vs ++ caps) (subH (reach H 100000 ((vs ++ caps).flatMap nm2) []) H) with
        | some (k', v, Hout) => match Nat.ble k k' with
          | true => some ⟨v, k', cutU (sameIds (subH (reach H 100000 ((vs ++ caps).flatMap nm2) []) H) Hout (subH (reach H 100000 ((vs ++ caps).flatMap nm2) []) H)) (callOut v k' (subH (reach H 100000 ((vs ++ caps).flatMap nm2) []) H) Hout).upd, (subH (reach H 100000 ((vs ++ caps).flatMap nm2) []) H).map (·.1)⟩
          | false => none
        | none => none
      | false => none
    | _, _ => none
  | _ => none
def evOps (e : Ev) (P : Program) (Γ : List (Nat × List AVal)) (all : Array Oper) : List Oper → Nat → Fr → Heap → Option (List Foot × Nat × Fr × Heap)
  | [], k, fr, H => some ([], k, fr, H)
  | o :: r, k, fr, H => match guardOf all fr o with
    | none => none
    | some false => match evOps e P Γ all r k (putO fr o.dst (.lit undef)) H with
      | none => none
      | some (tr, x) => some (⟨[], [], k, k⟩ :: tr, x)
    | some true => match (match isCall o with | true => evCall e P o (aeval Γ fr) H k | false => aop P Γ o (aeval Γ fr) (look H) k) with
      | none => none
      | some out => match evOps e P Γ all r out.k (putO fr o.dst out.v) (updH H out.upd) with
        | none => none
        | some (tr, x) => some (⟨out.rds, out.upd.map (·.1), k, out.k⟩ :: tr, x)
def evCode (e : Ev) (P : Program) (Γ : List (Nat × List AVal)) (nt : Nat) : Code → Nat → Fr → Heap → Option (Exit × Nat × Fr × Heap)
  | .skip, k, fr, H => some (.normal, k, fr, H)
  | .ret, k, fr, H => some (.ret, k, fr, H)
  | .exit id, k, fr, H => some (.exit id, k, fr, H)
  | .seq x y, k, fr, H => match evCode e P Γ nt x k fr H with
    | some (.normal, k1, fr1, H1) => evCode e P Γ nt y k1 fr1 H1
    | r => r
  | .cond c x y, k, fr, H => match aeval Γ fr c with
    | some (.lit (.bool true)) => evCode e P Γ nt x k fr H
    | some (.lit (.bool false)) => evCode e P Γ nt y k fr H
    | _ => none
  | .block id c, k, fr, H => match evCode e P Γ nt c k fr H with
    | some (.exit id', k1, fr1, H1) => match Nat.beq id' id with
      | true => some (.normal, k1, fr1, H1)
      | false => some (.exit id', k1, fr1, H1)
    | r => r
  | .loop c, k, fr, H => match evCode e P Γ nt c k fr H with
    | some (.normal, k1, fr1, H1) => e.loop nt c k1 fr1 H1
    | r => r
  | .region _ ops d, k, fr, H => match dstOk nt ops with
    | false => none
    | true => match evOps e P Γ ops ops.toList k fr H with
      | none => none
      | some (tr, k1, fr1, H1) => match (!d) || (P.follows .mixedOrders && drawOk ops tr) with
        | true => some (.normal, k1, fr1, H1)
        | false => none
  | _, _, _, _ => none
def evLoop (e : Ev) (P : Program) (Γ : List (Nat × List AVal)) (nt : Nat) (c : Code) (k : Nat) (fr : Fr) (H : Heap) : Option (Exit × Nat × Fr × Heap) :=
  match evCode e P Γ nt c k fr H with
  | some (.normal, k1, fr1, H1) => e.loop nt c k1 fr1 H1
  | r => r
def lowN (k : Nat) : Heap → List Nat
  | [] => []
  | (i, _) :: r => match Nat.blt i k with
    | true => i :: lowN k r
    | false => lowN k r
def evFunc (e : Ev) (P : Program) (Γ : List (Nat × List AVal)) (f : FuncId) (k : Nat) (args : List AVal) (H : Heap) : Option (Nat × AVal × Heap) :=
  match P.funcs[f]? with
  | none => none
  | some fn => match fn.body with
    | none => none
    | some c => match Nat.ble args.length fn.ntmps with
      | false => none
      | true => match evCode e P Γ fn.ntmps c k (argFr 0 args) H with
        | some (.normal, k1, fr1, H1) => match resA P fn fr1 H1 with
          | some r => some (k1, r, subH (reach H1 100000 (nm2 r ++ lowN k H1) []) H1)
          | none => none
        | some (.ret, k1, fr1, H1) => match resA P fn fr1 H1 with
          | some r => some (k1, r, subH (reach H1 100000 (nm2 r ++ lowN k H1) []) H1)
          | none => none
        | _ => none
def ev (P : Program) (Γ : List (Nat × List AVal)) : Nat → Ev
  | 0 => ⟨fun _ _ _ _ => none, fun _ _ _ _ _ => none⟩
  | n + 1 => ⟨fun f k args H => evFunc (ev P Γ n) P Γ f k args H, fun nt c k fr H => evLoop (ev P Γ n) P Γ nt c k fr H⟩
section
variable {P : Program} {Γ : List (Nat × List AVal)} {nt kb : Nat} {k : Nat} {fr : Fr} {H : Heap} {e : Ev}
def isQ (ex : Exit) (k : Nat) (fr : Fr) (H : Heap) : AQ := fun e1 k1 fr1 H1 => e1 = ex ∧ k1 = k ∧ fr1 = fr ∧ H1 = H
structure EvOk (P : Program) (Γ : List (Nat × List AVal)) (e : Ev) : Prop where
  call : ∀ f k args H k' v H', e.call f k args H = some (k', v, H') → Tr P Γ f k args H (fun k1 r1 H1 => k1 = k' ∧ r1 = v ∧ H1 = H')
  loop : ∀ nt c k fr H ex k' fr' H', e.loop nt c k fr H = some (ex, k', fr', H') → ∀ kb, ∃ n, roundsW P Γ nt kb c (isQ ex k' fr' H') n k fr H
theorem evCall_good (he : EvOk P Γ e) {o : Oper} {out : Out} (h : evCall e P o (aeval Γ fr) H k = some out) : Good P Γ o (aeval Γ fr) (look H) k out := by
  unfold evCall at h
  split at h
  · rename_i f args ty ho
    split at h
    · rename_i g caps vs hf ha
      generalize hHc : subH (reach H 100000 ((vs ++ caps).flatMap nm2) []) H = Hc at h
      split at h
      · rename_i hc
        simp only [Bool.and_eq_true] at hc
        split at h
        · rename_i k' v Hout hcall
          split at h
          · rename_i hle
            cases h
            have hin : ∀ id B, look Hc id = some B → look H id = some B := fun id B hB => by subst hHc; exact look_subH _ _ _ _ hB
            refine good_same (fun id hid => ?_) (call_ok ho hc.1.1 hf ha hc.2 hc.1.2.2 hin (he.call _ _ _ _ _ _ _ hcall) (Nat.le_of_ble_eq_true hle))
            obtain ⟨B, h1, h2, h3⟩ := sameIds_mem hid
            exact ⟨B, h1, hin id B h1, h2, h3⟩
          · cases h
        · cases h
      · cases h
    · cases h
  · cases h
end
end Go.AM
end
section
namespace Go.AM
section
variable {P : Program} {get : Nat → Option Blk} {k t : Nat} {op : BinOp} {z : AVal}
theorem e_b1 {cs : List AVal} : binO P get k op t (some (.agg cs)) (some z) = match isNeg op with | some neg => aEq P get k t neg (.agg cs) z | none => none := by cases z <;> rfl
theorem e_lits1 {v : Value} {r : List AVal} : litsOf (.lit v :: r) = (litsOf r).map (v :: ·) := by
  simp only [litsOf]; cases litsOf r <;> rfl
theorem e_lits0 : litsOf [] = some [] := rfl
end
section
variable {P : Program} {Γ : List (Nat × List AVal)} {nt kb : Nat} {Q : AQ} {k : Nat} {fr : Fr} {H : Heap} {c : Code} {p : List Nat}
theorem S_reg0 {id : Nat} {l : List Oper} (hc : cat c p = .region id l.toArray false) (keep : List Nat) (_hn : (l.all fun o => !isCall o && !rawOp o) = true) (hd : dstOk nt l.toArray = true)
    (h : ∀ K : List Foot → Nat → Fr → Heap → Prop, (∀ tr k' fr' H', (kb ≤ k' → Q .normal k' (restr keep fr') H') → K tr k' fr' H') → RunS P Γ l.toArray l [] k fr H K .mk) : W P Γ nt kb (cat c p) Q k fr H := C_reg hc keep [] hd h
theorem S_drw0 {id : Nat} {l : List Oper} (hc : cat c p = .region id l.toArray true) (keep : List Nat) (_hn : (l.all fun o => !isCall o && !rawOp o) = true) (hm : P.follows .mixedOrders = true) (hd : dstOk nt l.toArray = true)
    (h : ∀ K : List Foot → Nat → Fr → Heap → Prop, (∀ tr k' fr' H', drawOk l.toArray tr = true → (kb ≤ k' → Q .normal k' (restr keep fr') H') → K tr k' fr' H') → RunS P Γ l.toArray l [] k fr H K .mk) : W P Γ nt kb (cat c p) Q k fr H := C_drw hc keep [] hm hd h
end
attribute [go_sem] e_b1 e_lits1 e_lits0 aggCells eqCells eqLit Option.isSome_none
end Go.AM
end
section
namespace Go.AM
def VLes : List AVal → List AVal → Prop
  | [], [] => True
  | u :: us, v :: vs => VLe u v ∧ VLes us vs
  | _, _ => False
theorem VLes.nil : VLes [] [] := trivial
theorem VLes.cons {u v : AVal} {us vs : List AVal} (h : VLe u v) (hr : VLes us vs) : VLes (u :: us) (v :: vs) := ⟨h, hr⟩
theorem VLes.spec : ∀ {us vs : List AVal}, VLes us vs → us.length = vs.length ∧ ∀ (j : Nat) u v, us[j]? = some u → vs[j]? = some v → VLe u v
  | [], [], _ => ⟨rfl, fun j u v h => by simp at h⟩
  | u :: us, v :: vs, ⟨h1, h2⟩ => by
    obtain ⟨h3, h4⟩ := VLes.spec h2
    refine ⟨by simp [h3], fun j a b ha hb => ?_⟩
    cases j with
    | zero => cases ha; cases hb; exact h1
    | succ j => exact h4 j a b (by simpa using ha) (by simpa using hb)
  | [], _ :: _, h => h.elim
  | _ :: _, [], h => h.elim
theorem VLes.refl : ∀ (us : List AVal), VLes us us
  | [] => trivial
  | u :: us => ⟨VLe.refl u, VLes.refl us⟩
theorem VLe.aggs {us vs : List AVal} (h : VLes us vs) : VLe (.agg us) (.agg vs) := by
  obtain ⟨h1, h2⟩ := h.spec
  exact VLe.agg h1 h2
theorem VLe.copy (s n : Nat) (f : Nat → List AVal) : VLe (.rd s n (fun j => ((List.range n).map f).getD (0 + j) [])) (.rd s n f) := VLe.rd fun i hi => by simp [List.getD_eq_getElem?_getD, hi]
theorem VLe.copy' (s n : Nat) (f : Nat → List AVal) : VLe (.rd s n (fun j => ((List.range n).map f).getD j [])) (.rd s n f) := VLe.rd fun i hi => by simp [List.getD_eq_getElem?_getD, hi]
theorem look_cons_del {α : Type} (l : List (Nat × α)) (i j : Nat) (x : α) : look ((i, x) :: del l i) j = if i = j then some x else look l j := by
  simp only [look]
  split
  · rfl
  · rename_i h
    induction l with
    | nil => rfl
    | cons y ys ih =>
      obtain ⟨a, b⟩ := y
      simp only [del]
      split
      · rename_i he
        subst he
        simp only [look, if_neg h]; exact ih
      · simp only [look]
        split
        · rfl
        · exact ih
theorem Mv.row {kb k : Nat} {fr : Fr} {H : Heap} (id : Nat) {s : Nat} {p : Bool} {l : List (List AVal)} {r : List AVal} (r' : List AVal) (hH : look H id = some ⟨s, p, l ++ [r]⟩) (hr : VLes r r') (hc : ((l ++ [r']).all fun row => row.all clean) = true) :
    Mv kb k fr H k fr ((id, ⟨s, true, l ++ [r']⟩) :: del H id) := fun hk => Mv.wk ⟨hk, fun t v h => ⟨v, h, VLe.refl v⟩, fun i B hB => by
  rw [look_cons_del] at hB
  split at hB
  · rename_i he
    subst he
    cases hB
    obtain ⟨h1, h2⟩ := hr.spec
    refine ⟨_, hH, rfl, fun q row' hq => ?_, fun _ => .inr hc⟩
    rw [List.getElem?_append] at hq
    split at hq
    · rename_i hlt
      exact ⟨row', by rw [List.getElem?_append_left hlt]; exact hq, rfl, fun c u v hu hv => by rw [hu] at hv; cases hv; exact VLe.refl _⟩
    · rename_i hge
      have hq0 : q - l.length = 0 := by
        have := (List.getElem?_eq_some_iff.1 hq).1
        simp at this; exact this
      rw [hq0] at hq
      cases hq
      exact ⟨r, by rw [List.getElem?_append_right (by omega), hq0]; rfl, h1, fun c u v hu hv => h2 c u v hu hv⟩
  · exact ⟨B, hB, BLe.refl B⟩, .inl rfl⟩ hk
def offN (id : Nat) : Nat → Bool := fun i => decide (i ≠ id)
theorem frz_off {id : Nat} {B : Blk} {v : AVal} (h : bd1 (offN id) v = true) : frz id B v = v := by
  have h0 : ∀ u, bd0 (offN id) u = true → frz0 id B u = u := fun u hu => by
    cases u with
    | ptr i r c => simp only [bd0, offN, decide_eq_true_eq] at hu; simp [frz0, hu]
    | sl i r c => simp only [bd0, offN, decide_eq_true_eq] at hu; simp [frz0, hu]
    | _ => rfl
  have hl : ∀ (cs : List AVal), cs.all (bd0 (offN id)) = true → cs.map (frz0 id B) = cs := fun cs => by
    induction cs with
    | nil => intro _; rfl
    | cons a b ih =>
      intro hm
      simp only [List.all_cons, Bool.and_eq_true] at hm
      rw [List.map_cons, h0 _ hm.1, ih hm.2]
  cases v with
  | agg cs => simp only [frz]; rw [hl cs h]
  | fn f cs => simp only [frz]; rw [hl cs h]
  | ptr i r c => exact h0 (.ptr i r c) h
  | sl i r c => exact h0 (.sl i r c) h
  | _ => rfl
def keepF (fr : Fr) (id : Nat) : Fr → Prop
  | [] => True
  | (t, v) :: r => look fr t = some v ∧ bd1 (offN id) v = true ∧ keepF fr id r
def keepH (H : Heap) (id : Nat) : Heap → Prop
  | [] => True
  | (i, B) :: r => i ≠ id ∧ look H i = some B ∧ B.pure = true ∧ keepH H id r
theorem keepF_look {fr : Fr} {id : Nat} : ∀ {fr1 : Fr}, keepF fr id fr1 → ∀ t v, look fr1 t = some v → look fr t = some v ∧ bd1 (offN id) v = true
  | [], _, t, v, h => by simp [look] at h
  | (t', v') :: r, ⟨h1, h2, h3⟩, t, v, h => by
    simp only [look] at h
    split at h
    · rename_i he; subst he; cases h; exact ⟨h1, h2⟩
    · exact keepF_look h3 t v h
theorem keepH_look {H : Heap} {id : Nat} : ∀ {H1 : Heap}, keepH H id H1 → ∀ i B, look H1 i = some B → i ≠ id ∧ look H i = some B ∧ B.pure = true
  | [], _, t, v, h => by simp [look] at h
  | (t', v') :: r, ⟨h1, h2, h3, h4⟩, t, v, h => by
    simp only [look] at h
    split at h
    · rename_i he; subst he; cases h; exact ⟨h1, h2, h3⟩
    · exact keepH_look h4 t v h
theorem Mv.frz_at {kb k : Nat} {fr : Fr} {H : Heap} {id s : Nat} {l : List (List AVal)} (t : Nat) (v : AVal) (H1 : Heap) (hf : look fr t = some (accV id l)) (hH : accIn H id s l) (hv : VLe (rows s l) v) (h1 : keepF fr id (del fr t)) (h2 : keepH H id H1) :
    Mv kb k fr H k ((t, v) :: del fr t) H1 := by
  have hvle : ∀ u u', VLe u u' → VLe u' v → VLe u v := fun u u' a b w G ρ A cv h => b w G ρ A cv (a w G ρ A cv h)
  cases l with
  | nil =>
    refine fun hk => Mv.wk ⟨hk, fun t' u hu => ?_, fun i B hB => ⟨B, (keepH_look h2 i B hB).2.1, BLe.refl B⟩, .inl rfl⟩ hk
    simp only [look] at hu
    split at hu
    · rename_i he; subst he; cases hu
      exact ⟨_, hf, hvle _ _ (VLe.nil s _) hv⟩
    · exact ⟨u, (keepF_look h1 t' u hu).1, VLe.refl u⟩
  | cons x r =>
    have h3 := hH (by simp)
    refine Mv.trans (Mv.freeze id h3 rfl) (fun hk => Mv.wk ⟨hk, fun t' u hu => ?_, fun i B hB => ?_, .inl rfl⟩ hk)
    · simp only [look] at hu
      split at hu
      · rename_i he; subst he; cases hu
        refine ⟨_, by unfold frzF; rw [look_map, hf]; rfl, ?_⟩
        simp only [accV, frz, frz0, Nat.zero_add, Nat.le_refl, and_self, if_true]
        exact hv
      · obtain ⟨h4, h5⟩ := keepF_look h1 t' u hu
        refine ⟨u, ?_, VLe.refl u⟩
        unfold frzF; rw [look_map, h4, Option.map_some, frz_off h5]
    · obtain ⟨h4, h5, h6⟩ := keepH_look h2 i B hB
      refine ⟨B, ?_, BLe.refl B⟩
      unfold frzH
      rw [look_map, look_del, if_neg h4, h5]
      simp [frzB, h6]
attribute [go_sem] keepF keepH offN
theorem frz_app {id : Nat} {B : Blk} {l m : List (List AVal)} : List.map (fun row => List.map (frz0 id B) row) (l ++ m) = List.map (fun row => List.map (frz0 id B) row) l ++ List.map (fun row => List.map (frz0 id B) row) m := List.map_append
theorem range_snoc {f : Nat → List AVal} {n : Nat} : (List.range (n + 1)).map f = (List.range n).map f ++ [f n] := by
  rw [List.range_succ, List.map_append]; rfl
end Go.AM
end
section
namespace Go.AM
def shG (g : Nat → Nat) (f : Foot) : List Nat × List Nat := (f.rds.map g, f.mods.map g)
def clashN (ops : Array Oper) (oj : Oper) (fj : List Nat × List Nat) (oi : Oper) (fi : List Nat × List Nat) : Bool :=
  meets (dstL oj) (readsOf ops oi) || meets (dstL oj) (dstL oi) || meets (dstL oi) (readsOf ops oj) || meets fj.2 fi.1 || meets fj.2 fi.2 || meets fj.1 fi.2
def drawN (ops : Array Oper) (tr : List (List Nat × List Nat)) : Bool :=
  (List.range ops.size).all fun i => match ops[i]?, tr[i]? with
    | some oi, some fi => (oi.after.toList.all fun e => !Region.binds .any e || decide (e.on < i)) &&
        (List.range i).all fun j => match ops[j]?, tr[j]? with
          | some oj, some fj => !clashN ops oj fj oi fi || befB ops ops.size j i
          | _, _ => false
    | _, _ => false
theorem meets_map {g : Nat → Nat} {a b : List Nat} (h : meets (a.map g) (b.map g) = false) : meets a b = false := by
  cases hm : meets a b with
  | false => rfl
  | true =>
    unfold meets at hm h
    obtain ⟨x, hx, hb⟩ := List.any_eq_true.1 hm
    have : ((a.map g).any fun y => (b.map g).contains y) = true := List.any_eq_true.2 ⟨g x, List.mem_map.2 ⟨x, hx, rfl⟩, by
      simp only [List.contains_iff_mem] at hb ⊢
      exact List.mem_map.2 ⟨x, hb, rfl⟩⟩
    rw [this] at h; cases h
theorem clash_N {g : Nat → Nat} {ops : Array Oper} {oj oi : Oper} {fj fi : Foot} (h : clashN ops oj (shG g fj) oi (shG g fi) = false) : clash ops oj fj oi fi = false := by
  simp only [clashN, Bool.or_eq_false_iff, shG] at h
  simp only [clash, Bool.or_eq_false_iff]
  obtain ⟨⟨⟨⟨⟨h1, h2⟩, h3⟩, h4⟩, h5⟩, h6⟩ := h
  exact ⟨⟨⟨⟨⟨h1, h2⟩, h3⟩, meets_map h4⟩, meets_map h5⟩, meets_map h6⟩
theorem drawOk_names {ops : Array Oper} {tr : List Foot} (g : Nat → Nat) {L : List (List Nat × List Nat)} (hL : tr.map (shG g) = L) (h : drawN ops L = true) (hm : (tr.all fun f => f.mods.all fun x => decide (x < f.k')) = true) : drawOk ops tr = true := by
  subst hL
  simp only [drawN, List.all_eq_true] at h
  simp only [drawOk, List.all_eq_true]
  intro i hi
  have h1 := h i hi
  rw [List.getElem?_map] at h1
  cases ho : ops[i]? with
  | none => rw [ho] at h1; simp at h1
  | some oi =>
    cases ht : tr[i]? with
    | none => rw [ho, ht] at h1; simp at h1
    | some fi =>
      rw [ho, ht] at h1
      simp only [Option.map_some, Bool.and_eq_true, List.all_eq_true] at h1
      simp only [Bool.and_eq_true, List.all_eq_true]
      refine ⟨⟨h1.1, ?_⟩, fun j hj => ?_⟩
      · have := List.all_eq_true.1 hm fi (List.mem_of_getElem? ht)
        exact fun x hx => List.all_eq_true.1 this x hx
      · have h2 := h1.2 j hj
        rw [List.getElem?_map] at h2
        cases hoj : ops[j]? with
        | none => rw [hoj] at h2; simp at h2
        | some oj =>
          cases htj : tr[j]? with
          | none => rw [hoj, htj] at h2; simp at h2
          | some fj =>
            rw [hoj, htj] at h2
            simp only [Option.map_some, Bool.or_eq_true, Bool.not_eq_true'] at h2
            simp only [Bool.or_eq_true, Bool.not_eq_true']
            rcases h2 with h2 | h2
            · exact .inl (clash_N h2)
            · exact .inr h2
theorem M_cutO {P : Program} {Γ : List (Nat × List AVal)} {nt kb : Nat} {Q : AQ} {k : Nat} {fr : Fr} {H : Heap} {c : Code} (keep : List Nat) (kx : Nat) (u : Fr) (Hx : Heap)
    (h1 : W P Γ nt kb c (fun e k' fr' H' => e = .normal ∧ Mv kb k' fr' H' kx (ovr keep u fr) Hx) k fr H) (h2 : Q .normal kx (ovr keep u fr) Hx) : W P Γ nt kb c Q k fr H :=
  W_upM (W_mono h1 fun e k' fr' H' h => by
    obtain ⟨rfl, hm⟩ := h
    exact ⟨_, _, _, hm, h2⟩)
section
variable {j : Nat} {B C : Blk} {H : Heap}
theorem frzH_nil : frzH j B [] = [] := rfl
theorem frzH_eq : frzH j B ((j, C) :: H) = frzH j B H := by simp [frzH, del]
theorem frzH_ne {i : Nat} (h : i ≠ j) : frzH j B ((i, C) :: H) = (i, frzB j B C) :: frzH j B H := by simp [frzH, del, h]
theorem frzB_pure {sz : Nat} {rows : List (List AVal)} : frzB j B ⟨sz, true, rows⟩ = ⟨sz, true, rows⟩ := rfl
theorem frzB_not {sz : Nat} {rows : List (List AVal)} : frzB j B ⟨sz, false, rows⟩ = ⟨sz, false, rows.map fun row => row.map (frz0 j B)⟩ := rfl
theorem frz_acc {id : Nat} {l : List (List AVal)} (h : id ≠ j) : frz j B (accV id l) = accV id l := by cases l <;> simp [accV, frz, frz0, h]
theorem z_1 {v : Value} : frz0 j B (.lit v) = .lit v := rfl
theorem z_2 {i r n : Nat} : frz0 j B (.sl i r n) = if i = j ∧ r + n ≤ B.rows.length then .rd B.sz n (fun q => B.rows.getD (r + q) []) else .sl i r n := rfl
theorem z_3 {i r c : Nat} : frz0 j B (.ptr i r c) = if i = j ∧ r < B.rows.length then .rp ((B.rows.getD r []).drop c) else .ptr i r c := rfl
theorem z_4 {s n : Nat} {f : Nat → List AVal} : frz0 j B (.rd s n f) = .rd s n f := rfl
theorem y_1 {v : Value} : frz j B (.lit v) = .lit v := rfl
theorem y_2 {i r n : Nat} : frz j B (.sl i r n) = frz0 j B (.sl i r n) := rfl
theorem y_3 {i r c : Nat} : frz j B (.ptr i r c) = frz0 j B (.ptr i r c) := rfl
theorem y_4 {s n : Nat} {f : Nat → List AVal} : frz j B (.rd s n f) = .rd s n f := rfl
theorem y_7 {f : FuncId} {cs : List AVal} : frz j B (.fn f cs) = .fn f (cs.map (frz0 j B)) := rfl
theorem y_8 {cs : List AVal} : frz j B (.agg cs) = .agg (cs.map (frz0 j B)) := rfl
end
attribute [go_sem] frzH_nil frzH_eq frzH_ne frzB_pure frzB_not frz_acc z_1 z_2 z_3 z_4 y_1 y_2 y_3 y_4 y_7 y_8 List.all_append
theorem Mv.pure {kb k : Nat} {fr : Fr} {H : Heap} (id : Nat) {s : Nat} {p : Bool} {rows : List (List AVal)} (hH : look H id = some ⟨s, p, rows⟩) (hc : (rows.all fun row => row.all clean) = true) :
    Mv kb k fr H k fr ((id, ⟨s, true, rows⟩) :: del H id) := fun hk => Mv.wk ⟨hk, fun t v h => ⟨v, h, VLe.refl v⟩, fun i B hB => by
  rw [look_cons_del] at hB
  split at hB
  · rename_i he
    subst he
    cases hB
    exact ⟨_, hH, rfl, fun q row hq => ⟨row, hq, rfl, fun c u v hu hv => by rw [hu] at hv; cases hv; exact VLe.refl _⟩, fun _ => .inr hc⟩
  · exact ⟨B, hB, BLe.refl B⟩, .inl rfl⟩ hk
theorem old_name {L k : Nat} (h : L < k) : (∀ c, (k + c = L) = False) ∧ (∀ c, (L = k + c) = False) ∧ ((k = L) = False) ∧ ((L = k) = False) ∧ (∀ c, (L < k + c) = True) ∧ ((L < k) = True) :=
  ⟨fun c => by simp; omega, fun c => by simp; omega, by simp; omega, by simp; omega, fun c => by simp; omega, by simp [h]⟩
theorem two_names {L F : Nat} (h : L ≠ F) : ((L = F) = False) ∧ ((F = L) = False) := ⟨eq_false h, eq_false (fun e => h e.symm)⟩
theorem nf : (∀ (p : Prop) [Decidable p], (decide p = true) = p) ∧ (∀ (p : Prop) [Decidable p], decide p = false ↔ ¬ p) ∧ (∀ (α : Type) [BEq α] [LawfulBEq α] (a b : α), (a != b) = true ↔ a ≠ b) ∧ (∀ (α : Type) [BEq α] [LawfulBEq α] (a b : α), (a == b) = true ↔ a = b) ∧ (∀ (α : Type) [BEq α] [LawfulBEq α] (a : α), (a != a) = false) ∧ (∀ (α : Type) [BEq α] [LawfulBEq α] (a : α), (a == a) = true) ∧ (∀ (α : Type) (a b : α), (a ≠ b) = ¬ (a = b)) ∧ (∀ b : Bool, ((!b) = true) = (b = false)) ∧ (∀ b : Bool, ((!b) = false) = (b = true)) ∧ (∀ b : Bool, (!!b) = b) ∧ (∀ (α : Type) [BEq α] [LawfulBEq α] (a b : α), (a != b) = false ↔ a = b) ∧ (∀ (α : Type) [BEq α] [LawfulBEq α] (a b : α), (a == b) = false ↔ a ≠ b) ∧ ((false = true) = False) ∧ ((true = false) = False) ∧ (∀ a b : Int, ¬ a < b ↔ b ≤ a) ∧ (∀ a b : Int, ¬ a ≤ b ↔ b < a) ∧ ((!true) = false) ∧ ((!false) = true) :=
  ⟨fun _ _ => decide_eq_true_eq, fun _ _ => decide_eq_false_iff_not, fun _ _ _ _ _ => bne_iff_ne, fun _ _ _ _ _ => beq_iff_eq, fun _ _ _ _ => bne_self_eq_false _, fun _ _ _ _ => beq_self_eq_true _, fun _ _ _ => rfl, fun b => by cases b <;> simp, fun b => by cases b <;> simp, Bool.not_not, fun _ _ _ _ _ => bne_eq_false_iff_eq, fun _ _ _ _ _ => beq_eq_false_iff_ne, Bool.false_eq_true, Bool.true_eq_false, fun _ _ => Int.not_lt, fun _ _ => Int.not_le, rfl, rfl⟩
theorem nfb : (∀ (p : Prop) [Decidable p], (decide p = true) = p) ∧ (∀ (p : Prop) [Decidable p], decide p = false ↔ ¬ p) ∧ (∀ b : Bool, ((!b) = true) = (b = false)) ∧ (∀ b : Bool, ((!b) = false) = (b = true)) ∧ (∀ b : Bool, (!!b) = b) ∧ ((!true) = false) ∧ ((!false) = true) :=
  ⟨fun _ _ => decide_eq_true_eq, fun _ _ => decide_eq_false_iff_not, fun b => by cases b <;> simp, fun b => by cases b <;> simp, Bool.not_not, rfl, rfl⟩
theorem nfe : (∀ (α : Type) [BEq α] [LawfulBEq α] (a b : α), (a == b) = true ↔ a = b) ∧ (∀ (α : Type) [BEq α] [LawfulBEq α] (a b : α), (a == b) = false ↔ a ≠ b) ∧ (∀ (α : Type) [BEq α] [LawfulBEq α] (a b : α), (a != b) = true ↔ a ≠ b) ∧ (∀ (α : Type) [BEq α] [LawfulBEq α] (a b : α), (a != b) = false ↔ a = b) ∧ (∀ (α : Type) (a b : α), (a ≠ b) = ¬ (a = b)) ∧ ((false = true) = False) ∧ ((true = false) = False) :=
  ⟨fun _ _ _ _ _ => beq_iff_eq, fun _ _ _ _ _ => beq_eq_false_iff_ne, fun _ _ _ _ _ => bne_iff_ne, fun _ _ _ _ _ => bne_eq_false_iff_eq, fun _ _ _ => rfl, Bool.false_eq_true, Bool.true_eq_false⟩
attribute [go_sem] List.getD_cons_zero List.getD_cons_succ List.length_range Nat.le_refl Option.isSome_none Int.toNat_natCast List.length_map List.length_append ne_eq Nat.add_assoc List.range_zero Nat.lt_add_right_iff_pos Nat.add_lt_add_iff_left Nat.add_le_add_iff_left Nat.le_add_right Nat.left_eq_add Nat.add_eq_left Nat.add_left_cancel_iff Nat.lt_add_one reduceCtorEq Nat.reduceEqDiff Nat.reduceAdd Nat.reduceSub Nat.reduceMul Nat.reduceLeDiff Nat.reduceLT Nat.reduceBEq Int.reduceLT Int.reduceLE Int.reduceEq Int.reduceToNat Int.reduceNeg Int.reduceBEq Int.reduceAdd Int.reduceSub Int.reduceMul Nat.reduceMod Nat.reduceDiv
theorem drawA {ops : Array Oper} {tr : List Foot} (g : Nat → Nat) {L : List (List Nat × List Nat)} (hL : tr.map (shG g) = L := by (simp only [List.map_cons, List.map_nil, shG, ↓reduceIte, Nat.add_sub_cancel_left, Nat.sub_self]; rfl)) (h : drawN ops L = true := by decide +kernel) (hm : (tr.all fun f => f.mods.all fun x => decide (x < f.k')) = true := by simp -dsimp -implicitDefEqProofs only [go_sem, eq_self, ↓reduceIte]) : drawOk ops tr = true := drawOk_names g hL h hm
end Go.AM
end
section
namespace Go.AM
structure Hd (G : Prop) : Prop where
  o : G
structure Mk : Prop where
  o : True
structure Kp (l : List Nat) (g : Nat → Nat) : Prop where
  o : True
structure Os (l : List Orc) : Prop where
theorem zM {G : Prop} (h : G) : Hd G := ⟨h⟩
theorem zN {G : Prop} (h : G) : Hd (Hd G) := ⟨⟨h⟩⟩
theorem zA {a b : Prop} (h : a) (k : b) : a ∧ b := ⟨h, k⟩
theorem hdT : Hd True := ⟨trivial⟩
theorem uU : (true && true) = true := rfl
theorem zq0 : Hd True ∧ Hd True ∧ Hd True ∧ Hd True ∧ Hd True ∧ Hd True ∧ Hd True ∧ Hd True ∧ Hd True ∧ Hd True ∧ Hd True ∧ Hd True := ⟨hdT, hdT, hdT, hdT, hdT, hdT, hdT, hdT, hdT, hdT, hdT, hdT⟩
theorem zq1 {P0 : Prop} (a0 : Hd P0) : Hd P0 ∧ Hd True ∧ Hd True ∧ Hd True ∧ Hd True ∧ Hd True ∧ Hd True ∧ Hd True ∧ Hd True ∧ Hd True ∧ Hd True ∧ Hd True := ⟨a0, hdT, hdT, hdT, hdT, hdT, hdT, hdT, hdT, hdT, hdT, hdT⟩
theorem zq2 {P0 P1 : Prop} (a0 : Hd P0) (a1 : Hd P1) : Hd P0 ∧ Hd P1 ∧ Hd True ∧ Hd True ∧ Hd True ∧ Hd True ∧ Hd True ∧ Hd True ∧ Hd True ∧ Hd True ∧ Hd True ∧ Hd True := ⟨a0, a1, hdT, hdT, hdT, hdT, hdT, hdT, hdT, hdT, hdT, hdT⟩
theorem zq3 {P0 P1 P2 : Prop} (a0 : Hd P0) (a1 : Hd P1) (a2 : Hd P2) : Hd P0 ∧ Hd P1 ∧ Hd P2 ∧ Hd True ∧ Hd True ∧ Hd True ∧ Hd True ∧ Hd True ∧ Hd True ∧ Hd True ∧ Hd True ∧ Hd True := ⟨a0, a1, a2, hdT, hdT, hdT, hdT, hdT, hdT, hdT, hdT, hdT⟩
theorem zq4 {P0 P1 P2 P3 : Prop} (a0 : Hd P0) (a1 : Hd P1) (a2 : Hd P2) (a3 : Hd P3) : Hd P0 ∧ Hd P1 ∧ Hd P2 ∧ Hd P3 ∧ Hd True ∧ Hd True ∧ Hd True ∧ Hd True ∧ Hd True ∧ Hd True ∧ Hd True ∧ Hd True := ⟨a0, a1, a2, a3, hdT, hdT, hdT, hdT, hdT, hdT, hdT, hdT⟩
theorem zq5 {P0 P1 P2 P3 P4 : Prop} (a0 : Hd P0) (a1 : Hd P1) (a2 : Hd P2) (a3 : Hd P3) (a4 : Hd P4) : Hd P0 ∧ Hd P1 ∧ Hd P2 ∧ Hd P3 ∧ Hd P4 ∧ Hd True ∧ Hd True ∧ Hd True ∧ Hd True ∧ Hd True ∧ Hd True ∧ Hd True := ⟨a0, a1, a2, a3, a4, hdT, hdT, hdT, hdT, hdT, hdT, hdT⟩
theorem zq6 {P0 P1 P2 P3 P4 P5 : Prop} (a0 : Hd P0) (a1 : Hd P1) (a2 : Hd P2) (a3 : Hd P3) (a4 : Hd P4) (a5 : Hd P5) : Hd P0 ∧ Hd P1 ∧ Hd P2 ∧ Hd P3 ∧ Hd P4 ∧ Hd P5 ∧ Hd True ∧ Hd True ∧ Hd True ∧ Hd True ∧ Hd True ∧ Hd True := ⟨a0, a1, a2, a3, a4, a5, hdT, hdT, hdT, hdT, hdT, hdT⟩
theorem zq7 {P0 P1 P2 P3 P4 P5 P6 : Prop} (a0 : Hd P0) (a1 : Hd P1) (a2 : Hd P2) (a3 : Hd P3) (a4 : Hd P4) (a5 : Hd P5) (a6 : Hd P6) : Hd P0 ∧ Hd P1 ∧ Hd P2 ∧ Hd P3 ∧ Hd P4 ∧ Hd P5 ∧ Hd P6 ∧ Hd True ∧ Hd True ∧ Hd True ∧ Hd True ∧ Hd True := ⟨a0, a1, a2, a3, a4, a5, a6, hdT, hdT, hdT, hdT, hdT⟩
theorem zq8 {P0 P1 P2 P3 P4 P5 P6 P7 : Prop} (a0 : Hd P0) (a1 : Hd P1) (a2 : Hd P2) (a3 : Hd P3) (a4 : Hd P4) (a5 : Hd P5) (a6 : Hd P6) (a7 : Hd P7) : Hd P0 ∧ Hd P1 ∧ Hd P2 ∧ Hd P3 ∧ Hd P4 ∧ Hd P5 ∧ Hd P6 ∧ Hd P7 ∧ Hd True ∧ Hd True ∧ Hd True ∧ Hd True := ⟨a0, a1, a2, a3, a4, a5, a6, a7, hdT, hdT, hdT, hdT⟩
theorem zq9 {P0 P1 P2 P3 P4 P5 P6 P7 P8 : Prop} (a0 : Hd P0) (a1 : Hd P1) (a2 : Hd P2) (a3 : Hd P3) (a4 : Hd P4) (a5 : Hd P5) (a6 : Hd P6) (a7 : Hd P7) (a8 : Hd P8) : Hd P0 ∧ Hd P1 ∧ Hd P2 ∧ Hd P3 ∧ Hd P4 ∧ Hd P5 ∧ Hd P6 ∧ Hd P7 ∧ Hd P8 ∧ Hd True ∧ Hd True ∧ Hd True := ⟨a0, a1, a2, a3, a4, a5, a6, a7, a8, hdT, hdT, hdT⟩
theorem zq10 {P0 P1 P2 P3 P4 P5 P6 P7 P8 P9 : Prop} (a0 : Hd P0) (a1 : Hd P1) (a2 : Hd P2) (a3 : Hd P3) (a4 : Hd P4) (a5 : Hd P5) (a6 : Hd P6) (a7 : Hd P7) (a8 : Hd P8) (a9 : Hd P9) : Hd P0 ∧ Hd P1 ∧ Hd P2 ∧ Hd P3 ∧ Hd P4 ∧ Hd P5 ∧ Hd P6 ∧ Hd P7 ∧ Hd P8 ∧ Hd P9 ∧ Hd True ∧ Hd True := ⟨a0, a1, a2, a3, a4, a5, a6, a7, a8, a9, hdT, hdT⟩
theorem zq11 {P0 P1 P2 P3 P4 P5 P6 P7 P8 P9 P10 : Prop} (a0 : Hd P0) (a1 : Hd P1) (a2 : Hd P2) (a3 : Hd P3) (a4 : Hd P4) (a5 : Hd P5) (a6 : Hd P6) (a7 : Hd P7) (a8 : Hd P8) (a9 : Hd P9) (a10 : Hd P10) : Hd P0 ∧ Hd P1 ∧ Hd P2 ∧ Hd P3 ∧ Hd P4 ∧ Hd P5 ∧ Hd P6 ∧ Hd P7 ∧ Hd P8 ∧ Hd P9 ∧ Hd P10 ∧ Hd True := ⟨a0, a1, a2, a3, a4, a5, a6, a7, a8, a9, a10, hdT⟩
theorem zq12 {P0 P1 P2 P3 P4 P5 P6 P7 P8 P9 P10 P11 : Prop} (a0 : Hd P0) (a1 : Hd P1) (a2 : Hd P2) (a3 : Hd P3) (a4 : Hd P4) (a5 : Hd P5) (a6 : Hd P6) (a7 : Hd P7) (a8 : Hd P8) (a9 : Hd P9) (a10 : Hd P10) (a11 : Hd P11) : Hd P0 ∧ Hd P1 ∧ Hd P2 ∧ Hd P3 ∧ Hd P4 ∧ Hd P5 ∧ Hd P6 ∧ Hd P7 ∧ Hd P8 ∧ Hd P9 ∧ Hd P10 ∧ Hd P11 := ⟨a0, a1, a2, a3, a4, a5, a6, a7, a8, a9, a10, a11⟩
theorem two {Q : Prop} (x : Q) (_ : True) : Q := x
theorem kpI {l : List Nat} {g : Nat → Nat} : Kp l g := ⟨trivial⟩
section
variable {P : Program} {Γ : List (Nat × List AVal)} {nt kb : Nat} {Q : AQ} {k : Nat} {fr : Fr} {H : Heap} {c : Code} {p : List Nat} {keep : List Nat} {g : Nat → Nat}
theorem S_reg0K (_ : Kp keep g) {id : Nat} {l : List Oper} (hc : cat c p = .region id l.toArray false) (hn : (l.all fun o => !isCall o && !rawOp o) = true) (hd : dstOk nt l.toArray = true)
    (h : ∀ K : List Foot → Nat → Fr → Heap → Prop, (∀ tr k' fr' H', (kb ≤ k' → Q .normal k' (restr keep fr') H') → K tr k' fr' H') → RunS P Γ l.toArray l [] k fr H K .mk) : W P Γ nt kb (cat c p) Q k fr H := S_reg0 hc keep hn hd h
theorem S_drw0K (_ : Kp keep g) {id : Nat} {l : List Oper} (hc : cat c p = .region id l.toArray true) (hn : (l.all fun o => !isCall o && !rawOp o) = true) (hm : P.follows .mixedOrders = true) (hd : dstOk nt l.toArray = true)
    (h : ∀ K : List Foot → Nat → Fr → Heap → Prop, (∀ tr k' fr' H', drawOk l.toArray tr = true → (kb ≤ k' → Q .normal k' (restr keep fr') H') → K tr k' fr' H') → RunS P Γ l.toArray l [] k fr H K .mk) : W P Γ nt kb (cat c p) Q k fr H := S_drw0 hc keep hn hm hd h
theorem S_regK (_ : Kp keep g) {cs : List Orc} (_ : Os cs) {id : Nat} {l : List Oper} (hc : cat c p = .region id l.toArray false) (hd : dstOk nt l.toArray = true)
    (h : ∀ K : List Foot → Nat → Fr → Heap → Prop, (∀ tr k' fr' H', (kb ≤ k' → Q .normal k' (restr keep fr') H') → K tr k' fr' H') → RunS P Γ l.toArray l cs k fr H K .mk) : W P Γ nt kb (cat c p) Q k fr H := S_reg hc keep cs hd h
theorem S_drwK (_ : Kp keep g) {cs : List Orc} (_ : Os cs) {id : Nat} {l : List Oper} (hc : cat c p = .region id l.toArray true) (hm : P.follows .mixedOrders = true) (hd : dstOk nt l.toArray = true)
    (h : ∀ K : List Foot → Nat → Fr → Heap → Prop, (∀ tr k' fr' H', drawOk l.toArray tr = true → (kb ≤ k' → Q .normal k' (restr keep fr') H') → K tr k' fr' H') → RunS P Γ l.toArray l cs k fr H K .mk) : W P Γ nt kb (cat c p) Q k fr H := S_drw hc keep cs hm hd h
end
theorem drawKN {keep : List Nat} {g : Nat → Nat} (_ : Kp keep g) {ops : Array Oper} {tr : List Foot} {L : List (List Nat × List Nat)} (hL : tr.map (shG g) = L) (h : drawN ops L = true) (hm : (tr.all fun f => f.mods.all fun x => decide (x < f.k')) = true) : drawOk ops tr = true := drawOk_names g hL h hm
theorem wl {Q P1 P2 P3 P4 P5 P6 P7 P8 P9 P10 P11 P12 : Prop} (p : Hd P1 ∧ Hd P2 ∧ Hd P3 ∧ Hd P4 ∧ Hd P5 ∧ Hd P6 ∧ Hd P7 ∧ Hd P8 ∧ Hd P9 ∧ Hd P10 ∧ Hd P11 ∧ Hd P12)
    (h : Hd P1 → Hd P2 → Hd P3 → Hd P4 → Hd P5 → Hd P6 → Hd P7 → Hd P8 → Hd P9 → Hd P10 → Hd P11 → Hd P12 → Q := by
  intro a1 a2 a3 a4 a5 a6 a7 a8 a9 a10 a11 a12
  refine two ?_ ?_
  · (repeat' (first | (refine C_seq rfl ?_) | (refine C_block rfl ?_) | (refine C_skip rfl ?_; (try simp -dsimp -implicitDefEqProofs only [go_sem, uU, eq_self, ↓reduceIte])) | (refine C_exit rfl ?_; (try simp -dsimp -implicitDefEqProofs only [go_sem, uU, eq_self, ↓reduceIte])) | (refine C_cond rfl _ rfl (fun zt => ?_) (fun zt => ?_) <;> (try (simp only [nf] at zt)) <;> (try (exfalso; omega))) | ((first | (refine S_reg0K kp rfl rfl rfl (fun zK hK => ?_)) | (refine S_drw0K kp rfl rfl (by kernel_rfl) rfl (fun zK hK => ?_))); simp -dsimp -implicitDefEqProofs only [go_sem, uU, eq_self, ↓reduceIte]; (repeat' (first | (refine And.intro ?_ ?_) | (refine gs_both (fun hb => ?_) (fun hb => ?_) <;> (have zg := hb; (try simp only [nfb] at zg); simp -dsimp -implicitDefEqProofs only [go_sem, uU, hb, zg, eq_self, ↓reduceIte]; clear hb; (try simp only [nfe] at zg))))); any_goals ((first | refine hK _ _ _ _ (fun hx => ?_) | refine hK _ _ _ _ (drawKN kp (by simp only [List.map_cons, List.map_nil, shG, uU, ↓reduceIte, Nat.add_sub_cancel_left, Nat.sub_self]; rfl) (by decide +kernel) (by simp -dsimp -implicitDefEqProofs only [go_sem, uU, eq_self, ↓reduceIte])) (fun hx => ?_) | refine hK _ _ _ _ (drawOk_of (by kernel_rfl) (by simp -dsimp -implicitDefEqProofs only [go_sem, uU, eq_self, ↓reduceIte])) (fun hx => ?_)); clear hx hK; simp -dsimp -implicitDefEqProofs only [go_sem, uU, eq_self, ↓reduceIte]; (try simp (disch := omega) only [wrap_i64, wrap_u64, wrap_u32, wrap_u8]))) | omega))
    all_goals (refine Hd.o ?_; (repeat revert zg); refine Hd.o ?_; (repeat revert zt); first | ((fail_if_success (fail_if_success (have zz : Hd Mk := a1))); exact Hd.o a1) | ((fail_if_success (fail_if_success (have zz : Hd Mk := a2))); exact Hd.o a2) | ((fail_if_success (fail_if_success (have zz : Hd Mk := a3))); exact Hd.o a3) | ((fail_if_success (fail_if_success (have zz : Hd Mk := a4))); exact Hd.o a4) | ((fail_if_success (fail_if_success (have zz : Hd Mk := a5))); exact Hd.o a5) | ((fail_if_success (fail_if_success (have zz : Hd Mk := a6))); exact Hd.o a6) | ((fail_if_success (fail_if_success (have zz : Hd Mk := a7))); exact Hd.o a7) | ((fail_if_success (fail_if_success (have zz : Hd Mk := a8))); exact Hd.o a8) | ((fail_if_success (fail_if_success (have zz : Hd Mk := a9))); exact Hd.o a9) | ((fail_if_success (fail_if_success (have zz : Hd Mk := a10))); exact Hd.o a10) | ((fail_if_success (fail_if_success (have zz : Hd Mk := a11))); exact Hd.o a11) | ((fail_if_success (fail_if_success (have zz : Hd Mk := a12))); exact Hd.o a12))
  · (try have zz : Hd True := a1); (try have zz : Hd True := a2); (try have zz : Hd True := a3); (try have zz : Hd True := a4); (try have zz : Hd True := a5); (try have zz : Hd True := a6); (try have zz : Hd True := a7); (try have zz : Hd True := a8); (try have zz : Hd True := a9); (try have zz : Hd True := a10); (try have zz : Hd True := a11); (try have zz : Hd True := a12)
    exact trivial) : Q := h p.1 p.2.1 p.2.2.1 p.2.2.2.1 p.2.2.2.2.1 p.2.2.2.2.2.1 p.2.2.2.2.2.2.1 p.2.2.2.2.2.2.2.1 p.2.2.2.2.2.2.2.2.1 p.2.2.2.2.2.2.2.2.2.1 p.2.2.2.2.2.2.2.2.2.2.1 p.2.2.2.2.2.2.2.2.2.2.2
theorem cl (os : List Orc) {Q P1 P2 P3 P4 P5 P6 P7 P8 P9 P10 P11 P12 : Prop} (p : Hd P1 ∧ Hd P2 ∧ Hd P3 ∧ Hd P4 ∧ Hd P5 ∧ Hd P6 ∧ Hd P7 ∧ Hd P8 ∧ Hd P9 ∧ Hd P10 ∧ Hd P11 ∧ Hd P12)
    (h : Os os → Hd P1 → Hd P2 → Hd P3 → Hd P4 → Hd P5 → Hd P6 → Hd P7 → Hd P8 → Hd P9 → Hd P10 → Hd P11 → Hd P12 → Q := by
  intro oo a1 a2 a3 a4 a5 a6 a7 a8 a9 a10 a11 a12
  refine two ?_ ?_
  · (refine S_regK kp oo rfl rfl (fun zK hK => ?_)); simp -dsimp -implicitDefEqProofs only [go_sem, uU, eq_self, ↓reduceIte]; (repeat' (first | (refine And.intro ?_ ?_) | (refine gs_both (fun hb => ?_) (fun hb => ?_) <;> (have zg := hb; (try simp only [nfb] at zg); simp -dsimp -implicitDefEqProofs only [go_sem, uU, hb, zg, eq_self, ↓reduceIte]; clear hb; (try simp only [nfe] at zg))))); (any_goals ((refine hK _ _ _ _ (fun hx => ?_)); clear hx hK; simp -dsimp -implicitDefEqProofs only [go_sem, uU, eq_self, ↓reduceIte]; (try simp (disch := omega) only [wrap_i64, wrap_u64, wrap_u32, wrap_u8]))); (all_goals (try omega))
    all_goals (refine Hd.o ?_; (repeat revert zg); refine Hd.o ?_; (repeat revert zt); first | ((fail_if_success (fail_if_success (have zz : Hd Mk := a1))); exact Hd.o a1) | ((fail_if_success (fail_if_success (have zz : Hd Mk := a2))); exact Hd.o a2) | ((fail_if_success (fail_if_success (have zz : Hd Mk := a3))); exact Hd.o a3) | ((fail_if_success (fail_if_success (have zz : Hd Mk := a4))); exact Hd.o a4) | ((fail_if_success (fail_if_success (have zz : Hd Mk := a5))); exact Hd.o a5) | ((fail_if_success (fail_if_success (have zz : Hd Mk := a6))); exact Hd.o a6) | ((fail_if_success (fail_if_success (have zz : Hd Mk := a7))); exact Hd.o a7) | ((fail_if_success (fail_if_success (have zz : Hd Mk := a8))); exact Hd.o a8) | ((fail_if_success (fail_if_success (have zz : Hd Mk := a9))); exact Hd.o a9) | ((fail_if_success (fail_if_success (have zz : Hd Mk := a10))); exact Hd.o a10) | ((fail_if_success (fail_if_success (have zz : Hd Mk := a11))); exact Hd.o a11) | ((fail_if_success (fail_if_success (have zz : Hd Mk := a12))); exact Hd.o a12))
  · (try have zz : Hd True := a1); (try have zz : Hd True := a2); (try have zz : Hd True := a3); (try have zz : Hd True := a4); (try have zz : Hd True := a5); (try have zz : Hd True := a6); (try have zz : Hd True := a7); (try have zz : Hd True := a8); (try have zz : Hd True := a9); (try have zz : Hd True := a10); (try have zz : Hd True := a11); (try have zz : Hd True := a12)
    exact trivial) : Q := h ⟨⟩ p.1 p.2.1 p.2.2.1 p.2.2.2.1 p.2.2.2.2.1 p.2.2.2.2.2.1 p.2.2.2.2.2.2.1 p.2.2.2.2.2.2.2.1 p.2.2.2.2.2.2.2.2.1 p.2.2.2.2.2.2.2.2.2.1 p.2.2.2.2.2.2.2.2.2.2.1 p.2.2.2.2.2.2.2.2.2.2.2
theorem dl (os : List Orc) {Q P1 P2 P3 P4 P5 P6 P7 P8 P9 P10 P11 P12 : Prop} (p : Hd P1 ∧ Hd P2 ∧ Hd P3 ∧ Hd P4 ∧ Hd P5 ∧ Hd P6 ∧ Hd P7 ∧ Hd P8 ∧ Hd P9 ∧ Hd P10 ∧ Hd P11 ∧ Hd P12)
    (h : Os os → Hd P1 → Hd P2 → Hd P3 → Hd P4 → Hd P5 → Hd P6 → Hd P7 → Hd P8 → Hd P9 → Hd P10 → Hd P11 → Hd P12 → Q := by
  intro oo a1 a2 a3 a4 a5 a6 a7 a8 a9 a10 a11 a12
  refine two ?_ ?_
  · (refine S_drwK kp oo rfl (by kernel_rfl) rfl (fun zK hK => ?_)); simp -dsimp -implicitDefEqProofs only [go_sem, uU, eq_self, ↓reduceIte]; (repeat' (first | (refine And.intro ?_ ?_) | (refine gs_both (fun hb => ?_) (fun hb => ?_) <;> (have zg := hb; (try simp only [nfb] at zg); simp -dsimp -implicitDefEqProofs only [go_sem, uU, hb, zg, eq_self, ↓reduceIte]; clear hb; (try simp only [nfe] at zg))))); (any_goals ((first | refine hK _ _ _ _ (drawKN kp (by simp only [List.map_cons, List.map_nil, shG, uU, ↓reduceIte, Nat.add_sub_cancel_left, Nat.sub_self]; rfl) (by decide +kernel) (by simp -dsimp -implicitDefEqProofs only [go_sem, uU, eq_self, ↓reduceIte])) (fun hx => ?_) | refine hK _ _ _ _ (drawOk_of (by kernel_rfl) (by simp -dsimp -implicitDefEqProofs only [go_sem, uU, eq_self, ↓reduceIte])) (fun hx => ?_)); clear hx hK; simp -dsimp -implicitDefEqProofs only [go_sem, uU, eq_self, ↓reduceIte]; (try simp (disch := omega) only [wrap_i64, wrap_u64, wrap_u32, wrap_u8]))); (all_goals (try omega))
    all_goals (refine Hd.o ?_; (repeat revert zg); refine Hd.o ?_; (repeat revert zt); first | ((fail_if_success (fail_if_success (have zz : Hd Mk := a1))); exact Hd.o a1) | ((fail_if_success (fail_if_success (have zz : Hd Mk := a2))); exact Hd.o a2) | ((fail_if_success (fail_if_success (have zz : Hd Mk := a3))); exact Hd.o a3) | ((fail_if_success (fail_if_success (have zz : Hd Mk := a4))); exact Hd.o a4) | ((fail_if_success (fail_if_success (have zz : Hd Mk := a5))); exact Hd.o a5) | ((fail_if_success (fail_if_success (have zz : Hd Mk := a6))); exact Hd.o a6) | ((fail_if_success (fail_if_success (have zz : Hd Mk := a7))); exact Hd.o a7) | ((fail_if_success (fail_if_success (have zz : Hd Mk := a8))); exact Hd.o a8) | ((fail_if_success (fail_if_success (have zz : Hd Mk := a9))); exact Hd.o a9) | ((fail_if_success (fail_if_success (have zz : Hd Mk := a10))); exact Hd.o a10) | ((fail_if_success (fail_if_success (have zz : Hd Mk := a11))); exact Hd.o a11) | ((fail_if_success (fail_if_success (have zz : Hd Mk := a12))); exact Hd.o a12))
  · (try have zz : Hd True := a1); (try have zz : Hd True := a2); (try have zz : Hd True := a3); (try have zz : Hd True := a4); (try have zz : Hd True := a5); (try have zz : Hd True := a6); (try have zz : Hd True := a7); (try have zz : Hd True := a8); (try have zz : Hd True := a9); (try have zz : Hd True := a10); (try have zz : Hd True := a11); (try have zz : Hd True := a12)
    exact trivial) : Q := h ⟨⟩ p.1 p.2.1 p.2.2.1 p.2.2.2.1 p.2.2.2.2.1 p.2.2.2.2.2.1 p.2.2.2.2.2.2.1 p.2.2.2.2.2.2.2.1 p.2.2.2.2.2.2.2.2.1 p.2.2.2.2.2.2.2.2.2.1 p.2.2.2.2.2.2.2.2.2.2.1 p.2.2.2.2.2.2.2.2.2.2.2
theorem cR {A B : Prop} (b : Hd (Hd B)) (h : Hd (Hd B) → A := by
  intro b1
  refine C_ret rfl ?_; simp -dsimp -implicitDefEqProofs only [go_sem, uU, eq_self, ↓reduceIte]; refine ⟨_, rfl, ?_⟩
  exact Hd.o (Hd.o b1)) : A := h b
theorem rR {A B : Prop} (b : Hd B) (h : Hd B → A := by
  intro b1
  refine two ?_ ?_
  · (simp -dsimp -implicitDefEqProofs only [go_sem, uU, eq_self, ↓reduceIte]) <;> exact Hd.o (Hd.o b1)
  · (try have zz : Hd True := b1)
    exact trivial) : A := h b
end Go.AM
end
