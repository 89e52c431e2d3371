import Derived.Test.YteimiejbhhgljaaGreatDoorZAC
import Derived.Laws.StructEq
set_option linter.unusedVariables false
set_option linter.unusedSimpArgs false
section
namespace Go.AM
section
variable {P : Program} {Γ : List (Nat × List AVal)} {o : Oper} {ev : Operand → Option AVal} {get : Nat → Option Blk} {k : Nat}
def bound (ev : Operand → Option AVal) (x : Option Operand) (d : Int) : Option Int :=
  match x with
  | none => some d
  | some y => match ev y with
    | some (.lit (.int _ i)) => some i
    | _ => none
theorem run_slice_part {t s : Nat} (ht : esz P t = some s) (lo hi : Option Value) (base : Option Addr) (len cap : Nat) (l h : Int) (hl : lo = none ∧ l = 0 ∨ ∃ kk, lo = some (.int kk l)) (hh : hi = none ∧ h = len ∨ ∃ kk, hi = some (.int kk h))
    (h0 : 0 ≤ l) (h1 : l ≤ h) (h2 : h ≤ len) (h3 : len ≤ cap) (w : World) :
    (Instr.sliceAt t (.slice base len cap) lo hi none).run P w = .ok (.slice (if cap = l.toNat then base else base.map (·.add (l.toNat * s))) (h.toNat - l.toNat) (cap - l.toNat)) w := by
  obtain ⟨e, i, hu, hi', rfl⟩ := esz_spec ht
  have hb : (Instr.sliceBounds true len cap lo hi none).run P w = .ok (l.toNat, h.toNat, cap) w := by
    have q1 : (0 : Int) ≤ h ∧ h ≤ (cap : Int) := ⟨by omega, by omega⟩
    have q3 : (0 : Int) ≤ l ∧ l ≤ (h.toNat : Int) := ⟨h0, by omega⟩
    rcases hl with ⟨rfl, rfl⟩ | ⟨kl, rfl⟩ <;> rcases hh with ⟨rfl, rfl⟩ | ⟨kh, rfl⟩
    · simp [Instr.sliceBounds]
    · simp [Instr.sliceBounds, Instr.sliceBound, asIntOf, q1]
    · have q2 : (0 : Int) ≤ l ∧ l ≤ (len : Int) := ⟨h0, h1⟩
      simp [Instr.sliceBounds, Instr.sliceBound, asIntOf, q2]
    · simp only [Instr.sliceBounds, Instr.sliceBound, asIntOf, Sem.run_bind, Sem.run_pure, Result.andThen_ok, q1, and_self, if_true, q3]
  simp only [Instr.sliceAt, underlying, Sem.run_bind, run_program, Result.andThen_ok, hu, Sem.run_pure, Instr.slice, hb, sizeOf, typeInfo, hi']
theorem bound_spec {x : Option Operand} {d i : Int} (h : bound ev x d = some i) {a : Act} {w : World} {G : Nat → Prop} {ρ : Names} {A : Allow} (hv : ∀ y, x = some y → ∀ v, ev y = some v → V w G ρ A v (a.eval y)) :
    x.map a.eval = none ∧ i = d ∨ ∃ kk, x.map a.eval = some (.int kk i) := by
  cases x with
  | none => cases h; exact .inl ⟨rfl, rfl⟩
  | some y =>
    simp only [bound] at h
    split at h
    · rename_i kk j hy
      cases h
      have := V_bool (hv y rfl _ hy)
      exact .inr ⟨kk, by simp [this]⟩
    · cases h
theorem slice_rd_ok {t s n : Nat} {x : Operand} {lo hi : Option Operand} {f : Nat → List AVal} {l h : Int} (ho : o.op = .slice t x lo hi none) (ht : esz P t = some s) (hx : ev x = some (.rd s n f)) (hl : bound ev lo 0 = some l) (hh : bound ev hi n = some h)
    (h0 : 0 ≤ l) (h1 : l ≤ h) (h2 : h ≤ n) : OpOk P Γ o ev get k ⟨.rd s (h.toNat - l.toNat) (fun i => f (l.toNat + i)), k, [], []⟩ := by
  refine OpOk_quiet fun w G ρ H A a hr _ hop => ?_
  have hvx := hop x (by simp [ho, Op.operands]) _ hx
  have el := bound_spec (w := w) (G := G) (ρ := ρ) (A := A) (a := a) hl (fun y hy v hv => hop y (by simp [ho, Op.operands, hy]) v hv)
  have eh := bound_spec (w := w) (G := G) (ρ := ρ) (A := A) (a := a) hh (fun y hy v hv => hop y (by simp [ho, Op.operands, hy]) v hv)
  generalize hev : a.eval x = cv at hvx
  cases hvx with
  | rd0 =>
    rename_i base cap
    have hrun := run_slice_part ht (lo.map a.eval) (hi.map a.eval) base 0 cap l h el eh h0 h1 (by omega) (by omega) w
    have e0 : h.toNat - l.toNat = 0 := by omega
    refine ⟨_, by simp only [execOp, ho, hev, Option.map_none, Sem.run_bind, hrun, Result.andThen_ok, Sem.run_pure]; rfl, ?_⟩
    rw [e0]; exact .rd0
  | rd g hb hcap hn hlen hc hv =>
    rename_i b off cap
    have hrun := run_slice_part ht (lo.map a.eval) (hi.map a.eval) (some ⟨b, off, none⟩) n cap l h el eh h0 h1 h2 hcap w
    refine ⟨_, by simp only [execOp, ho, hev, Option.map_none, Sem.run_bind, hrun, Result.andThen_ok, Sem.run_pure]; rfl, ?_⟩
    by_cases hcl : cap = l.toNat
    · have e0 : h.toNat - l.toNat = 0 := by omega
      rw [e0]; exact .rd0
    · rw [if_neg hcl, Option.map_some, Addr.add_mid]
      refine .rd (fun i j => g (l.toNat + i) j) hb (by omega) (by omega) (fun i hi' => hlen _ (by omega)) (fun i j v hi' hj => ?_) (fun i j v hi' hj => hv _ j v (by omega) hj)
      have := hc (l.toNat + i) j v (by omega) hj
      rw [← this]
      congr 2
      rw [Nat.add_mul]; omega
theorem slice_sl_ok {t s n id r : Nat} {x : Operand} {lo hi : Option Operand} {B : Blk} {l h : Int} (ho : o.op = .slice t x lo hi none) (ht : esz P t = some s) (hx : ev x = some (.sl id r n)) (hB : get id = some B) (hs : B.sz = s)
    (hl : bound ev lo 0 = some l) (hh : bound ev hi n = some h) (h0 : 0 ≤ l) (h1 : l ≤ h) (h2 : h ≤ n) : OpOk P Γ o ev get k ⟨.sl id (r + l.toNat) (h.toNat - l.toNat), k, [], [id]⟩ := by
  refine OpOk_quiet fun w G ρ H A a hr hrd hop => ?_
  have hvx := hop x (by simp [ho, Op.operands]) _ hx
  have el := bound_spec (w := w) (G := G) (ρ := ρ) (A := A) (a := a) hl (fun y hy v hv => hop y (by simp [ho, Op.operands, hy]) v hv)
  have eh := bound_spec (w := w) (G := G) (ρ := ρ) (A := A) (a := a) hh (fun y hy v hv => hop y (by simp [ho, Op.operands, hy]) v hv)
  obtain ⟨B', A', h3, hH, _⟩ := hrd id (by simp)
  rw [hB] at h3; cases h3
  obtain ⟨_, b, hb, _⟩ := hr.blk id B A' hH
  generalize hev : a.eval x = cv at hvx
  cases hvx with
  | dangs _ hn => rw [hb] at hn; cases hn
  | sl0 ha hρ =>
    have hrun := run_slice_part ht (lo.map a.eval) (hi.map a.eval) none 0 0 l h el eh h0 h1 h2 (Nat.le_refl _) w
    have e1 : l.toNat = 0 := by omega
    have e2 : h.toNat = 0 := by omega
    refine ⟨_, by simp only [execOp, ho, hev, Option.map_none, Sem.run_bind, hrun, Result.andThen_ok, Sem.run_pure]; rfl, ?_⟩
    rw [e1, e2]
    exact .sl0 ha hρ
  | sl ha hρ hsh hm hn hc hoff =>
    rw [hb] at hρ; cases hρ
    rename_i ty m cap off
    have hrun := run_slice_part ht (lo.map a.eval) (hi.map a.eval) (some ⟨b, off, none⟩) n cap l h el eh h0 h1 h2 hn w
    refine ⟨_, by simp only [execOp, ho, hev, Option.map_none, Sem.run_bind, hrun, Result.andThen_ok, Sem.run_pure]; rfl, ?_⟩
    have hm' : (r + l.toNat + (cap - l.toNat)) * B.sz ≤ m := by
      have : r + l.toNat + (cap - l.toNat) = r + cap := by omega
      rw [this]; exact hm
    by_cases hcl : cap = l.toNat
    · rw [if_pos hcl]
      exact .sl ha hb hsh hm' (by omega) (by omega) (.inl (by omega))
    · rw [if_neg hcl, Option.map_some, Addr.add_mid]
      refine .sl ha hb hsh hm' (by omega) (by omega) (.inr ?_)
      rcases hoff with h4 | h4
      · omega
      · rw [h4, ← hs, Nat.add_mul]
def notNil (get : Nat → Option Blk) : AVal → Bool
  | .ptr id _ _ => (get id).isSome
  | .rp _ => true
  | .sl id _ n => (get id).isSome && decide (0 < n)
  | .rd _ n _ => decide (0 < n)
  | .fn _ _ => true
  | .nn => true
  | _ => false
def nilLike : AVal → Bool
  | .lit (.pointer none) => true
  | .lit (.slice none _ _) => true
  | .lit .nilFunc => true
  | .lit .nilIface => true
  | _ => false
def refT (P : Program) (t : TypeId) : Option Nat :=
  match P.underlying t with
  | some (.pointer _) => some 0
  | some (.slice _) => some 1
  | some (.func ..) => some 2
  | some (.interface _) => some 4
  | _ => none
def kindOf : AVal → Nat
  | .ptr .. => 0
  | .rp _ => 0
  | .lit (.pointer _) => 0
  | .sl .. => 1
  | .rd .. => 1
  | .lit (.slice ..) => 1
  | .fn .. => 2
  | .lit .nilFunc => 2
  | .nn => 4
  | .lit .nilIface => 4
  | _ => 3
def rdsOf : AVal → List Nat
  | .ptr id _ _ => [id]
  | .sl id _ _ => [id]
  | _ => []
theorem equalIn_ptr {t e : Nat} (he : P.underlying t = some (.pointer e)) (d : Nat) (p : Addr) (w : World) : (Op.equalIn (d + 1) t (.pointer (some p)) (.pointer none)).run P w = .ok false w ∧ (Op.equalIn (d + 1) t (.pointer none) (.pointer (some p))).run P w = .ok false w := by
  constructor <;> simp [Op.equalIn, run_underlying he]
theorem equalIn_ptr0 {t e : Nat} (he : P.underlying t = some (.pointer e)) (d : Nat) (w : World) : (Op.equalIn (d + 1) t (.pointer none) (.pointer none)).run P w = .ok true w := by
  simp [Op.equalIn, run_underlying he]
theorem equalIn_sl0 {t e : Nat} (he : P.underlying t = some (.slice e)) (d : Nat) (m c m' c' : Nat) (w : World) : (Op.equalIn (d + 1) t (.slice none m c) (.slice none m' c')).run P w = .ok true w := by
  simp [Op.equalIn, run_underlying he]
theorem equalIn_sl {t e : Nat} (he : P.underlying t = some (.slice e)) (d : Nat) (p : Addr) (m c m' c' : Nat) (w : World) : (Op.equalIn (d + 1) t (.slice (some p) m c) (.slice none m' c')).run P w = .ok false w ∧ (Op.equalIn (d + 1) t (.slice none m' c') (.slice (some p) m c)).run P w = .ok false w := by
  constructor <;> simp [Op.equalIn, run_underlying he]
theorem equalIn_fn {t : Nat} {ps rs : Array TypeId} {vr : Bool} (he : P.underlying t = some (.func ps rs vr)) (d : Nat) (fn : Fn) (fi cc : Array Value) (w : World) : (Op.equalIn (d + 1) t (.func fn fi cc) .nilFunc).run P w = .ok false w ∧ (Op.equalIn (d + 1) t .nilFunc (.func fn fi cc)).run P w = .ok false w := by
  constructor <;> simp [Op.equalIn, run_underlying he]
theorem equalIn_if {t : Nat} {ms : Array (String × TypeId)} (he : P.underlying t = some (.interface ms)) (d : Nat) (tt : TypeId) (v : Value) (w : World) : (Op.equalIn (d + 1) t (.iface tt v) .nilIface).run P w = .ok false w ∧ (Op.equalIn (d + 1) t .nilIface (.iface tt v)).run P w = .ok false w := by
  constructor <;> simp [Op.equalIn, run_underlying he]
theorem eqGuard_idle {t : Nat} {x y : Value} (h1 : ¬ (x = .nilIface ∧ y = .nilIface)) (h2 : ∀ a b, ¬ (x = .agg a ∧ y = .agg b)) (op : BinOp) (p q : Operand) (w : World) : (eqGuard op t p q x y).run P w = .ok () w := by
  unfold eqGuard
  cases op <;> first | rfl | (cases x <;> cases y <;> first | rfl | exact absurd ⟨rfl, rfl⟩ h1 | exact absurd ⟨rfl, rfl⟩ (h2 _ _))
def NilEq (P : Program) (w : World) (t : TypeId) (cv cz : Value) : Prop :=
  (∀ op x y, (eqGuard op t x y cv cz).run P w = .ok () w) ∧ (∀ op x y, (eqGuard op t x y cz cv).run P w = .ok () w) ∧
      (binOp .eql t cv cz).run P w = .ok (.bool false) w ∧ (binOp .neq t cv cz).run P w = .ok (.bool true) w ∧ (binOp .eql t cz cv).run P w = .ok (.bool false) w ∧ (binOp .neq t cz cv).run P w = .ok (.bool true) w
theorem eql_of {t : Nat} {x y : Value} {w : World} {b : Bool} (hp : (∀ k n, x ≠ .int k n) ∧ (∀ k n, y ≠ .int k n) ∧ (∀ s, x ≠ .string s) ∧ (∀ k n, x ≠ .float k n) ∧ (∀ k n m, x ≠ .complex k n m)) (h : (Op.equal t x y).run P w = .ok b w) :
    (binOp .eql t x y).run P w = .ok (.bool b) w ∧ (binOp .neq t x y).run P w = .ok (.bool (!b)) w := by
  obtain ⟨h1, h2, h3, h4, h5⟩ := hp
  constructor
  · cases x <;> first | exact absurd rfl (h1 _ _) | exact absurd rfl (h3 _) | exact absurd rfl (h4 _ _) | exact absurd rfl (h5 _ _ _) | simp [binOp, h]
  · cases x <;> first | exact absurd rfl (h1 _ _) | exact absurd rfl (h3 _) | exact absurd rfl (h4 _ _) | exact absurd rfl (h5 _ _ _) | simp [binOp, h]
theorem nilEq_ptr {t e : Nat} (he : P.underlying t = some (.pointer e)) (p : Addr) (w : World) : NilEq P w t (.pointer (some p)) (.pointer none) := by
  have h := equalIn_ptr he 9999 p w
  have e1 := eql_of (P := P) (x := .pointer (some p)) (y := .pointer none) (w := w) (t := t) (by simp) h.1
  have e2 := eql_of (P := P) (x := .pointer none) (y := .pointer (some p)) (w := w) (t := t) (by simp) h.2
  exact ⟨fun op x y => eqGuard_idle (by simp) (by simp) op x y w, fun op x y => eqGuard_idle (by simp) (by simp) op x y w, e1.1, e1.2, e2.1, e2.2⟩
theorem nilEq_sl {t e : Nat} (he : P.underlying t = some (.slice e)) (p : Addr) (m c m' c' : Nat) (w : World) : NilEq P w t (.slice (some p) m c) (.slice none m' c') := by
  have h := equalIn_sl he 9999 p m c m' c' w
  have e1 := eql_of (P := P) (x := .slice (some p) m c) (y := .slice none m' c') (w := w) (t := t) (by simp) h.1
  have e2 := eql_of (P := P) (x := .slice none m' c') (y := .slice (some p) m c) (w := w) (t := t) (by simp) h.2
  exact ⟨fun op x y => eqGuard_idle (by simp) (by simp) op x y w, fun op x y => eqGuard_idle (by simp) (by simp) op x y w, e1.1, e1.2, e2.1, e2.2⟩
theorem nilEq_fn {t : Nat} {ps rs : Array TypeId} {vr : Bool} (he : P.underlying t = some (.func ps rs vr)) (fn : Fn) (fi cc : Array Value) (w : World) : NilEq P w t (.func fn fi cc) .nilFunc := by
  have h := equalIn_fn he 9999 fn fi cc w
  have e1 := eql_of (P := P) (x := .func fn fi cc) (y := .nilFunc) (w := w) (t := t) (by simp) h.1
  have e2 := eql_of (P := P) (x := .nilFunc) (y := .func fn fi cc) (w := w) (t := t) (by simp) h.2
  exact ⟨fun op x y => eqGuard_idle (by simp) (by simp) op x y w, fun op x y => eqGuard_idle (by simp) (by simp) op x y w, e1.1, e1.2, e2.1, e2.2⟩
theorem nilEq_if {t : Nat} {ms : Array (String × TypeId)} (he : P.underlying t = some (.interface ms)) (tt : TypeId) (v : Value) (w : World) : NilEq P w t (.iface tt v) .nilIface := by
  have h := equalIn_if he 9999 tt v w
  have e1 := eql_of (P := P) (x := .iface tt v) (y := .nilIface) (w := w) (t := t) (by simp) h.1
  have e2 := eql_of (P := P) (x := .nilIface) (y := .iface tt v) (w := w) (t := t) (by simp) h.2
  exact ⟨fun op x y => eqGuard_idle (by simp) (by simp) op x y w, fun op x y => eqGuard_idle (by simp) (by simp) op x y w, e1.1, e1.2, e2.1, e2.2⟩
theorem eqnil_run {t kd : Nat} (ht : refT P t = some kd) {v z : AVal} {w : World} {G : Nat → Prop} {ρ : Names} {A : Allow} {H : Owner} (hr : HRel Γ w G ρ H) (hrd : ∀ id, id ∈ rdsOf v → ∃ B A', get id = some B ∧ H id = some (B, A') ∧ ∀ i, A' i → A i)
    {cv cz : Value} (hv : V w G ρ A v cv) (hz : V w G ρ A z cz) (hn : notNil get v = true) (hzz : nilLike z = true) (hk1 : kindOf v = kd) (hk2 : kindOf z = kd) : NilEq P w t cv cz := by
  have hlit : z = .lit cz := by
    cases z with
    | lit u => cases hz; rfl
    | _ => simp [nilLike] at hzz
  subst hlit
  clear hz
  have hown : ∀ id, id ∈ rdsOf v → ρ id ≠ none := fun id hid hn' => by
    obtain ⟨B, A', _, hH, _⟩ := hrd id hid
    obtain ⟨_, b, hb, _⟩ := hr.blk _ B A' hH
    rw [hb] at hn'; cases hn'
  unfold refT at ht
  split at ht
  · rename_i e he
    cases ht
    have hcz : cz = .pointer none := by
      cases cz with
      | pointer a => cases a with
        | none => rfl
        | some => simp [nilLike] at hzz
      | slice a m c => simp [kindOf] at hk2
      | nilFunc => simp [kindOf] at hk2
      | nilIface => simp [kindOf] at hk2
      | _ => simp [nilLike] at hzz
    subst hcz
    cases hv with
    | dang _ hn' => exact absurd hn' (hown _ (by simp [rdsOf]))
    | ptr => exact nilEq_ptr he _ w
    | rp => exact nilEq_ptr he _ w
    | junk => simp [notNil] at hn
    | lit => simp [notNil] at hn
    | agg => simp [notNil] at hn
    | tup => simp [notNil] at hn
    | dangs => simp [kindOf] at hk1
    | sl => simp [kindOf] at hk1
    | sl0 => simp [kindOf] at hk1
    | rd0 => simp [kindOf] at hk1
    | rd => simp [kindOf] at hk1
    | fn => simp [kindOf] at hk1
    | nn => simp [kindOf] at hk1
    | dangc => simp [notNil] at hn
    | slc => simp [notNil] at hn
    | bfn => simp [notNil] at hn
    | dangm => simp [notNil] at hn
    | mp => simp [notNil] at hn
    | dangi => simp [notNil] at hn
    | it => simp [notNil] at hn
  · rename_i e he
    cases ht
    obtain ⟨m, c, hcz⟩ : ∃ m c, cz = .slice none m c := by
      cases cz with
      | slice a m c => cases a with
        | none => exact ⟨m, c, rfl⟩
        | some => simp [nilLike] at hzz
      | pointer a => simp [kindOf] at hk2
      | nilFunc => simp [kindOf] at hk2
      | nilIface => simp [kindOf] at hk2
      | _ => simp [nilLike] at hzz
    subst hcz
    cases hv with
    | dangs _ hn' => exact absurd hn' (hown _ (by simp [rdsOf]))
    | sl => exact nilEq_sl he _ _ _ _ _ w
    | sl0 => simp [notNil] at hn
    | rd => exact nilEq_sl he _ _ _ _ _ w
    | rd0 => simp [notNil] at hn
    | junk => simp [notNil] at hn
    | lit => simp [notNil] at hn
    | agg => simp [notNil] at hn
    | tup => simp [notNil] at hn
    | dang => simp [kindOf] at hk1
    | ptr => simp [kindOf] at hk1
    | rp => simp [kindOf] at hk1
    | fn => simp [kindOf] at hk1
    | nn => simp [kindOf] at hk1
    | dangc => simp [notNil] at hn
    | slc => simp [notNil] at hn
    | bfn => simp [notNil] at hn
    | dangm => simp [notNil] at hn
    | mp => simp [notNil] at hn
    | dangi => simp [notNil] at hn
    | it => simp [notNil] at hn
  · rename_i ps rs vr he
    cases ht
    have hcz : cz = .nilFunc := by
      cases cz with
      | nilFunc => rfl
      | pointer a => simp [kindOf] at hk2
      | slice a m c => simp [kindOf] at hk2
      | nilIface => simp [kindOf] at hk2
      | _ => simp [nilLike] at hzz
    subst hcz
    cases hv with
    | fn => exact nilEq_fn he _ _ _ w
    | nn => simp [kindOf] at hk1
    | dangc => simp [notNil] at hn
    | slc => simp [notNil] at hn
    | bfn => simp [notNil] at hn
    | dangm => simp [notNil] at hn
    | mp => simp [notNil] at hn
    | dangi => simp [notNil] at hn
    | it => simp [notNil] at hn
    | junk => simp [notNil] at hn
    | lit => simp [notNil] at hn
    | agg => simp [notNil] at hn
    | tup => simp [notNil] at hn
    | dang => simp [kindOf] at hk1
    | dangs => simp [kindOf] at hk1
    | ptr => simp [kindOf] at hk1
    | sl => simp [kindOf] at hk1
    | sl0 => simp [kindOf] at hk1
    | rp => simp [kindOf] at hk1
    | rd0 => simp [kindOf] at hk1
    | rd => simp [kindOf] at hk1
  · rename_i ms he
    cases ht
    have hcz : cz = .nilIface := by
      cases cz with
      | nilIface => rfl
      | nilFunc => simp [kindOf] at hk2
      | pointer a => simp [kindOf] at hk2
      | slice a m c => simp [kindOf] at hk2
      | _ => simp [nilLike] at hzz
    subst hcz
    cases hv with
    | nn => exact nilEq_if he _ _ w
    | dangc => simp [notNil] at hn
    | slc => simp [notNil] at hn
    | bfn => simp [notNil] at hn
    | dangm => simp [notNil] at hn
    | mp => simp [notNil] at hn
    | dangi => simp [notNil] at hn
    | it => simp [notNil] at hn
    | fn => simp [kindOf] at hk1
    | junk => simp [notNil] at hn
    | lit => simp [notNil] at hn
    | agg => simp [notNil] at hn
    | tup => simp [notNil] at hn
    | dang => simp [kindOf] at hk1
    | dangs => simp [kindOf] at hk1
    | ptr => simp [kindOf] at hk1
    | sl => simp [kindOf] at hk1
    | sl0 => simp [kindOf] at hk1
    | rp => simp [kindOf] at hk1
    | rd0 => simp [kindOf] at hk1
    | rd => simp [kindOf] at hk1
  · cases ht
theorem eqnil_ok {t ty kd : Nat} {x y : Operand} {v z : AVal} {neg : Bool} (ho : o.op = .binOp (if neg then .neq else .eql) t x y ty) (ht : refT P t = some kd) (hxy : (ev x = some v ∧ ev y = some z) ∨ (ev x = some z ∧ ev y = some v))
    (hn : notNil get v = true) (hzz : nilLike z = true) (hk1 : kindOf v = kd) (hk2 : kindOf z = kd) : OpOk P Γ o ev get k ⟨.lit (.bool neg), k, [], rdsOf v⟩ := by
  refine OpOk_quiet fun w G ρ H A a hr hrd hop => ⟨.bool neg, ?_, .lit⟩
  have hmx : x ∈ o.op.operands := by cases neg <;> simp [ho, Op.operands]
  have hmy : y ∈ o.op.operands := by cases neg <;> simp [ho, Op.operands]
  rcases hxy with ⟨hx, hy⟩ | ⟨hx, hy⟩
  · obtain ⟨h3, _, h5, h6, _, _⟩ := eqnil_run (P := P) ht hr hrd (hop x hmx v hx) (hop y hmy z hy) hn hzz hk1 hk2
    cases neg <;> simp [execOp, ho, h3, h5, h6]
  · obtain ⟨_, h4, _, _, h7, h8⟩ := eqnil_run (P := P) ht hr hrd (hop y hmy v hy) (hop x hmx z hx) hn hzz hk1 hk2
    cases neg <;> simp [execOp, ho, h4, h7, h8]
def tagOf (P : Program) (t : TypeId) : Option Nat :=
  match P.underlying t with
  | some (.int _) => some 0
  | some .bool => some 1
  | some .string => some 2
  | _ => none
def eqOffs (P : Program) (t : TypeId) : Option (List (Nat × Nat)) :=
  match P.underlying t with
  | some (.struct fs) => if P.stoodInHeld t || P.eqGuardType P.depth t || fs.any (·.name == "_") then none else fs.toList.mapM fun f => (tagOf P f.type).map fun g => (f.offset, g)
  | _ => none
def eqLit : Nat → Value → Value → Option Bool
  | 0, .int k a, .int k' b => if k = k' then some (a == b) else none
  | 1, .bool a, .bool b => some (a == b)
  | 2, .string a, .string b => some (a == b)
  | _, _, _ => none
def eqCells (xs ys : List Value) : List (Nat × Nat) → Option Bool
  | [] => some true
  | (off, g) :: r => match xs[off]?, ys[off]? with
    | some a, some b => match eqLit g a b, eqCells xs ys r with
      | some p, some q => some (p && q)
      | _, _ => none
    | _, _ => none
theorem eqLit_run {t g d : Nat} (ht : tagOf P t = some g) {a b : Value} {p : Bool} (h : eqLit g a b = some p) (w : World) : (Op.equalIn (d + 1) t a b).run P w = .ok p w := by
  unfold tagOf at ht
  split at ht
  · rename_i kk hu
    cases ht
    cases a <;> cases b <;> simp [eqLit] at h
    obtain ⟨rfl, rfl⟩ := h
    simp [Op.equalIn, run_underlying hu]
  · rename_i hu
    cases ht
    cases a <;> cases b <;> simp [eqLit] at h
    subst h
    simp [Op.equalIn, run_underlying hu]
  · rename_i hu
    cases ht
    cases a <;> cases b <;> simp [eqLit] at h
    subst h
    simp [Op.equalIn, run_underlying hu]
  · cases ht
theorem tag_part {t g : Nat} (ht : tagOf P t = some g) {cs : Array Value} {off : Nat} {u : Value} (h : cs[off]? = some u) (w : World) : (part t cs off).run P w = .ok u w := by
  have : ∃ d, P.underlying t = some d ∧ d.isRow = false := by
    unfold tagOf at ht
    split at ht
    · exact ⟨_, ‹_›, rfl⟩
    · exact ⟨_, ‹_›, rfl⟩
    · exact ⟨_, ‹_›, rfl⟩
    · cases ht
  obtain ⟨d, hd, hdr⟩ := this
  have hagg : (isAgg t).run P w = .ok false w := by
    unfold isAgg
    rw [Sem.run_bind, run_underlying hd w]
    cases d <;> simp_all
  simp [part, hagg, h]
theorem eqFields_run {d : Nat} (xs ys : List Value) : ∀ (fs : List Field) (offs : List (Nat × Nat)) (p : Bool), (∀ f ∈ fs, f.name ≠ "_") → (fs.mapM fun f => (tagOf P f.type).map fun g => (f.offset, g)) = some offs → eqCells xs ys offs = some p →
    ∀ w, (Op.eqFields (d + 1) xs.toArray ys.toArray fs).run P w = .ok p w := by
  intro fs
  induction fs with
  | nil =>
    intro offs p _ hm he w
    simp at hm; subst hm
    simp [eqCells] at he; subst he
    simp [Op.eqFields]
  | cons f fs ih =>
    intro offs p hn hm he w
    rw [List.mapM_cons] at hm
    simp only [Option.bind_eq_bind, Option.bind_eq_some_iff, Option.map_eq_some_iff] at hm
    obtain ⟨x, ⟨g, hg, rfl⟩, offs', hm', hp⟩ := hm
    cases hp
    simp only [eqCells] at he
    split at he
    · rename_i a b ha hb
      split at he
      · rename_i p1 q1 h1 h2
        cases he
        have r1 := tag_part hg (cs := xs.toArray) (by rw [List.getElem?_toArray]; exact ha) w
        have r2 := tag_part hg (cs := ys.toArray) (by rw [List.getElem?_toArray]; exact hb) w
        have r3 := eqLit_run (d := d) hg h1 w
        have r4 := ih offs' q1 (fun f hf => hn f (List.mem_cons_of_mem _ hf)) hm' h2 w
        simp only [Op.eqFields, if_pos (hn f (by simp)), Sem.run_bind, r1, r2, r3, Result.andThen_ok]
        cases p1 <;> simp [r4]
      · cases he
    · cases he
theorem eqagg_ok {t ty : Nat} {x y : Operand} {xc yc : List AVal} {xs ys : List Value} {offs : List (Nat × Nat)} {p neg : Bool} (ho : o.op = .binOp (if neg then .neq else .eql) t x y ty) (ht : eqOffs P t = some offs)
    (hx : ev x = some (.agg xc)) (hy : ev y = some (.agg yc)) (hxs : litsOf xc = some xs) (hys : litsOf yc = some ys) (he : eqCells xs ys offs = some p) : OpOk P Γ o ev get k ⟨.lit (.bool (if neg then !p else p)), k, [], []⟩ := by
  refine OpOk_quiet fun w G ρ H A a hr hrd hop => ⟨.bool (if neg then !p else p), ?_, .lit⟩
  have hmx : x ∈ o.op.operands := by cases neg <;> simp [ho, Op.operands]
  have hmy : y ∈ o.op.operands := by cases neg <;> simp [ho, Op.operands]
  have ex : a.eval x = .agg xs.toArray := toVal_V (hop x hmx _ hx) (by simp [toVal, hxs])
  have ey : a.eval y = .agg ys.toArray := toVal_V (hop y hmy _ hy) (by simp [toVal, hys])
  unfold eqOffs at ht
  split at ht
  · rename_i fs hu
    split at ht
    · cases ht
    · rename_i hc
      simp only [Bool.or_eq_true, not_or, Bool.not_eq_true] at hc
      obtain ⟨⟨h1, h2⟩, h3⟩ := hc
      have hfs : P.fieldsOf t = fs := by simp [Program.fieldsOf, hu]
      have hnm : ∀ f ∈ fs.toList, f.name ≠ "_" := fun f hf he => by
        have := Array.any_eq_false'.1 h3 f (by simpa using hf)
        simp [he] at this
      have hrun := eqFields_run (P := P) (d := 9998) xs ys fs.toList offs p hnm ht he w
      have hstr := run_equalIn_struct (P := P) w 9999 t xs.toArray ys.toArray (by rw [hfs]; exact hu) h1
      rw [hfs, hrun] at hstr
      have hg := fun op => run_eqGuard_agg (P := P) w op t x y xs.toArray ys.toArray h2
      cases neg
      · simp only [execOp, ho, ex, ey, Bool.false_eq_true, if_false, Sem.run_bind, hg, Result.andThen_ok, run_eql_struct, hstr, Sem.run_pure]
      · simp only [execOp, ho, ex, ey, if_true, Sem.run_bind, hg, Result.andThen_ok, run_neq_struct, hstr, Sem.run_pure]
  · cases ht
theorem one_row_one {rows : List (List AVal)} (h : (rows.all fun row => row.all one) = true) : rowsOne rows := fun _ _ _ _ h1 h2 => all_get (all_get h h1) h2
inductive SrcA (get : Nat → Option Blk) : AVal → Nat → Nat → List (List AVal) → Bool → List Nat → Prop
  | rd {s m f} : SrcA get (.rd s m f) s m ((List.range m).map f) true []
  | sl {id r m B} : get id = some B → r + m ≤ B.rows.length → SrcA get (.sl id r m) B.sz m ((B.rows.drop r).take m) B.pure [id]
  | nil : SrcA get (.lit (.slice none 0 0)) 0 0 [] true []
theorem SrcA.src {v : AVal} {s m : Nat} {rows : List (List AVal)} {p : Bool} {ids : List Nat} (h : SrcA get v s m rows p ids) {w : World} {G : Nat → Prop} {ρ : Names} {H : Owner} {A : Allow} {cv : Value} (hr : HRel Γ w G ρ H)
    (hrd : ∀ id, id ∈ ids → ∃ B A', get id = some B ∧ H id = some (B, A') ∧ ∀ i, A' i → A i) (hv : V w G ρ A v cv) : Src w G ρ A s m rows p cv := by
  cases h with
  | nil => exact ⟨rfl, fun r row h => by simp at h, fun h => by omega⟩
  | rd =>
    rename_i f
    cases hv with
    | rd0 => exact ⟨by simp, fun r row h => by simp at h, fun h => by omega⟩
    | rd g hb hcap hn hl hc hvv =>
      have hget : ∀ (r : Nat) row, ((List.range m).map f)[r]? = some row → r < m ∧ row = f r := fun r row h => by
        rw [List.getElem?_map] at h
        simp only [Option.map_eq_some_iff] at h
        obtain ⟨i, hi, rfl⟩ := h
        obtain ⟨hlt, he⟩ := List.getElem?_eq_some_iff.1 hi
        simp at he hlt
        subst he
        exact ⟨hlt, rfl⟩
      refine ⟨by simp, fun r row h => ?_, fun _ => ⟨_, _, _, rfl, g, fun r row c v h1 h2 => ?_⟩⟩
      · obtain ⟨h1, rfl⟩ := hget r row h; exact hl r h1
      · obtain ⟨h3, rfl⟩ := hget r row h1
        exact ⟨hc r c v h3 h2, by simp only [if_true]; exact hvv r c v h3 h2⟩
  | sl hB hle =>
    rename_i id r B
    obtain ⟨B', A', h1, hH, hAA⟩ := hrd id (by simp)
    rw [hB] at h1; cases h1
    obtain ⟨_, b, hb, _, hBR⟩ := hr.blk id B A' hH
    have hlen := hBR.len
    have hget : ∀ (q : Nat) row, ((B.rows.drop r).take m)[q]? = some row → B.rows[r + q]? = some row := fun q row h => by
      rw [List.getElem?_take] at h
      split at h
      · rw [List.getElem?_drop] at h; exact h
      · cases h
    cases hv with
    | dangs _ hn => rw [hb] at hn; cases hn
    | sl0 => exact ⟨by simp, fun q row h => hlen _ row (hget q row h), fun hm0 => absurd hm0 (Nat.lt_irrefl _)⟩
    | sl ha hρ hsh hm hn hc hoff =>
      rw [hb] at hρ; cases hρ
      obtain ⟨⟨C, ty, hC, hrows⟩, _⟩ := hBR.old hsh
      refine ⟨by simp; omega, fun q row h => hlen _ row (hget q row h), fun hm0 => ⟨_, _, _, rfl, fun q c => C.getD ((r + q) * B.sz + c) undef, fun q row c v h1 h2 => ?_⟩⟩
      have hoff' := hoff.resolve_left (by omega)
      subst hoff'
      obtain ⟨cu, h3, h4⟩ := hrows _ row c v (hget q row h1) h2
      have e : C.getD ((r + q) * B.sz + c) undef = cu := by rw [Array.getD_eq_getD_getElem?, h3]; rfl
      show w.cell? ⟨b, r * B.sz + q * B.sz + c, none⟩ = some (C.getD ((r + q) * B.sz + c) undef) ∧ V w G (if B.pure then noNames else ρ) (if B.pure then noAllow else A) v (C.getD ((r + q) * B.sz + c) undef)
      rw [e]
      refine ⟨?_, ?_⟩
      · rw [cell_of_row w b _ C ty (0, 0) hC, ← h3]
        congr 1
        rw [Nat.add_mul]
      · by_cases hp : B.pure = true
        · simp only [hp, if_true] at h4 ⊢; exact h4
        · simp only [hp] at h4 ⊢; exact h4.mono (fun _ h => h) (fun _ _ => rfl) (fun _ _ => rfl) hAA (fun _ _ => .inr rfl)
theorem run_append0 (w : World) (t ty e : TypeId) (i : TypeInfo) (ht : P.underlying t = some (.slice e)) (hi : P.info? e = some i) (base q : Option Addr) (n cap c : Nat) (h : n ≤ cap) :
    (Builtin.append_ #[t, t] ty #[.slice base n cap, .slice q 0 c]).run P w = .ok (.slice base n cap) w := by
  cases base <;> cases q <;> simp [Builtin.append_, run_underlying ht, sizeOf, typeInfo, hi, Builtin.lenOf, h, Builtin.firstCells, loadCells, loadCellsFrom, storeCells]
theorem append0_ok {t s s' by' : Nat} {x y : Operand} {u v : AVal} {zrow : List AVal} {rows : List (List AVal)} {p : Bool} {ids idx : List Nat} (ho : o.op = .call { callee := .builtin .append, args := #[x, y], argTypes := #[t, t] }) (hz : ezero P t = some (s, by', zrow))
    (hx : ev x = some u) (hy : ev y = some v) (hu : (u = .lit (.slice none 0 0) ∧ idx = []) ∨ (∃ s1 n f, u = .rd s1 n f ∧ idx = []) ∨ (∃ id r n, u = .sl id r n ∧ idx = [id] ∧ (get id).isSome = true)) (hs : SrcA get v s' 0 rows p ids) :
    OpOk P Γ o ev get k ⟨u, k, [], idx ++ ids⟩ := by
  refine OpOk_quiet fun w G ρ H A a hr hrd hop => ?_
  have hvx := hop x (by simp [ho, Op.operands, Call.operands]) _ hx
  have hvy := hop y (by simp [ho, Op.operands, Call.operands]) _ hy
  have hxs : ∃ base n cap, a.eval x = .slice base n cap ∧ n ≤ cap := by
    generalize a.eval x = cv at hvx
    rcases hu with ⟨rfl, _⟩ | ⟨s1, n, f, rfl, _⟩ | ⟨id, r, n, rfl, he, hg⟩
    · cases hvx; exact ⟨_, _, _, rfl, Nat.le_refl _⟩
    · cases hvx with
      | rd0 => exact ⟨_, _, _, rfl, Nat.zero_le _⟩
      | rd _ _ hcap => exact ⟨_, _, _, rfl, hcap⟩
    · obtain ⟨B', A', h2, hH, _⟩ := hrd id (by simp [he])
      obtain ⟨_, b, hb, _⟩ := hr.blk id B' A' hH
      cases hvx with
      | dangs _ hn => rw [hb] at hn; cases hn
      | sl _ _ _ _ h5 => exact ⟨_, _, _, rfl, h5⟩
      | sl0 => exact ⟨_, _, _, rfl, Nat.le_refl _⟩
  have hys : ∃ q c, a.eval y = .slice q 0 c := by
    generalize a.eval y = cv at hvy
    cases hs with
    | nil => cases hvy; exact ⟨_, _, rfl⟩
    | rd => cases hvy with
      | rd0 => exact ⟨_, _, rfl⟩
      | rd => exact ⟨_, _, rfl⟩
    | sl hB hle =>
      rename_i id r B
      obtain ⟨B', A', h2, hH, _⟩ := hrd id (by simp)
      obtain ⟨_, b, hb, _⟩ := hr.blk id B' A' hH
      cases hvy with
      | dangs _ hn => rw [hb] at hn; cases hn
      | sl => exact ⟨_, _, rfl⟩
      | sl0 => exact ⟨_, _, rfl⟩
  obtain ⟨base, n, cap, ex, hcap⟩ := hxs
  obtain ⟨q, c, ey⟩ := hys
  unfold ezero at hz
  split at hz
  · rename_i e he
    split at hz
    · rename_i i hi
      rw [ex] at hvx
      refine ⟨.slice base n cap, ?_, hvx⟩
      have := run_append0 (P := P) w t o.type e i he hi base q n cap c hcap
      simp only [execOp, ho, resolve, invoke, builtin, List.map_toArray, List.map_cons, List.map_nil, ex, ey, Sem.run_bind, Sem.run_pure, Result.andThen_ok, this]
    · cases hz
  · cases hz
theorem append_nil_ok {t s by' m : Nat} {x y : Operand} {v : AVal} {zrow : List AVal} {rows : List (List AVal)} {p : Bool} {ids : List Nat} (ho : o.op = .call { callee := .builtin .append, args := #[x, y], argTypes := #[t, t] }) (hz : ezero P t = some (s, by', zrow))
    (hx : ev x = some (.lit (.slice none 0 0))) (hy : ev y = some v) (hs : SrcA get v s m rows p ids) (hm : 0 < m) (hlen : m ≤ 9223372036854775807) (hby : m * by' ≤ 140737488355328) (hone : (rows.all fun row => row.all one) = true) :
    OpOk P Γ o ev get k ⟨.sl k 0 m, k + 1, [(k, some ⟨s, p, rows⟩)], ids⟩ := by
  have := append_core (P := P) (Γ := Γ) (o := o) (ev := ev) (get := get) (k := k) (n := 0) (olds := []) (pd := true) (idd := none) (rds := ids) ho hz hm (by omega) (by rw [Nat.zero_add]; exact hby) (one_row_one hone) (fun id h => by cases h)
    (fun w G ρ H A a hr hrd hop => .inl ⟨rfl, rfl, rfl, V_bool (hop x (by simp [ho, Op.operands, Call.operands]) _ hx)⟩) (fun w G ρ H A a hr hrd hop => hs.src hr hrd (hop y (by simp [ho, Op.operands, Call.operands]) _ hy))
  simpa using this
theorem append_sl_ok {t s by' m n id : Nat} {x y : Operand} {v : AVal} {B : Blk} {zrow : List AVal} {rows : List (List AVal)} {p : Bool} {ids : List Nat} (ho : o.op = .call { callee := .builtin .append, args := #[x, y], argTypes := #[t, t] }) (hz : ezero P t = some (s, by', zrow))
    (hx : ev x = some (.sl id 0 n)) (hB : get id = some B) (hBs : B.sz = s) (hBn : B.rows.length = n) (hk : id < k) (hy : ev y = some v) (hs : SrcA get v s m rows p ids) (hm : 0 < m) (hlen : n + m ≤ 9223372036854775807) (hby : (n + m) * by' ≤ 140737488355328) (hone : (rows.all fun row => row.all one) = true) :
    OpOk P Γ o ev get k ⟨.sl k 0 (n + m), k + 1, [(k, some ⟨s, B.pure && p, B.rows ++ rows⟩), (id, none)], id :: ids⟩ := by
  have := append_core (P := P) (Γ := Γ) (o := o) (ev := ev) (get := get) (k := k) (n := n) (olds := B.rows) (pd := B.pure) (idd := some id) (rds := id :: ids) ho hz hm hlen hby (one_row_one hone) (fun id' h => by cases h; exact hk)
    (fun w G ρ H A a hr hrd hop => by
      obtain ⟨B', A', h1, h2, h3⟩ := hrd id (by simp)
      rw [hB] at h1; cases h1
      exact .inr ⟨id, B, A', rfl, h2, h3, hBs, rfl, rfl, hBn, hop x (by simp [ho, Op.operands, Call.operands]) _ hx⟩)
    (fun w G ρ H A a hr hrd hop => hs.src hr (fun i hi => hrd i (List.mem_cons_of_mem _ hi)) (hop y (by simp [ho, Op.operands, Call.operands]) _ hy))
  simpa using this
end
end Go.AM
end
section
namespace Go.AM
def VLe (v v' : AVal) : Prop := ∀ w G ρ A cv, V w G ρ A v cv → V w G ρ A v' cv
theorem VLe.refl (v : AVal) : VLe v v := fun _ _ _ _ _ h => h
theorem VLe.junk (v : AVal) : VLe v .junk := fun _ _ _ _ _ _ => .junk
theorem VLe.rd {sz n : Nat} {f g : Nat → List AVal} (h : ∀ i, i < n → f i = g i) : VLe (.rd sz n f) (.rd sz n g) := fun w G ρ A cv hv => by
  cases hv with
  | rd0 => exact .rd0
  | rd gg hb hcap hn hl hc hvv => exact .rd gg hb hcap hn (fun i hi => by rw [← h i hi]; exact hl i hi) (fun i j v hi hj => hc i j v hi (by rw [h i hi]; exact hj)) (fun i j v hi hj => hvv i j v hi (by rw [h i hi]; exact hj))
theorem VLe.agg {cs ds : List AVal} (hl : cs.length = ds.length) (h : ∀ (j : Nat) u v, cs[j]? = some u → ds[j]? = some v → VLe u v) : VLe (.agg cs) (.agg ds) := fun w G ρ A cv hv => by
  cases hv with
  | agg h1 h2 =>
    refine .agg (by omega) fun j v hj => ?_
    · have hlt := (List.getElem?_eq_some_iff.1 hj).1
      have hu : cs[j]? = some cs[j] := List.getElem?_eq_getElem (by omega)
      exact h j _ v hu hj _ _ _ _ _ (h2 j _ hu)
structure BLe (B B' : Blk) : Prop where
  sz : B'.sz = B.sz
  rows : ∀ (r : Nat) row', B'.rows[r]? = some row' → ∃ row, B.rows[r]? = some row ∧ row.length = row'.length ∧ ∀ (c : Nat) u v, row[c]? = some u → row'[c]? = some v → VLe u v
  pure : B'.pure = true → B.pure = true ∨ (B'.rows.all fun row => row.all clean) = true
theorem BLe.refl (B : Blk) : BLe B B := ⟨rfl, fun r row h => ⟨row, h, rfl, fun c u v h1 h2 => by rw [h1] at h2; cases h2; exact VLe.refl _⟩, fun h => .inl h⟩
section
variable {P : Program} {Γ : List (Nat × List AVal)} {nt kb : Nat} {Q Q' : AQ} {k : Nat} {fr : Fr} {H : Heap}
structure WkG (kb k : Nat) (fr : Fr) (H : Heap) (k1 : Nat) (fr1 : Fr) (H1 : Heap) : Prop where
  base : kb ≤ k1
  frm : ∀ t v, look fr1 t = some v → ∃ u, look fr t = some u ∧ VLe u v
  heap : ∀ id B, look H1 id = some B → ∃ C, look H id = some C ∧ BLe C B
  bound : k1 = k ∨ (bdF (ltB k1) fr1 = true ∧ bdH (ltB k1) H1 = true)
theorem BRel.le {w : World} {G : Nat → Prop} {ρ : Names} {A : Allow} {B B' : Blk} {b : Nat} (h : BRel w G ρ A B b) (hl : BLe B B') : BRel w G ρ A B' b := by
  obtain ⟨⟨C, ty, hC, hrows⟩, hlen⟩ := h
  refine ⟨⟨C, ty, hC, fun r row' c v h1 h2 => ?_⟩, fun r row' h1 => ?_⟩
  · obtain ⟨row, h3, h4, h5⟩ := hl.rows r row' h1
    have hlt := (List.getElem?_eq_some_iff.1 h2).1
    have hu : row[c]? = some row[c] := List.getElem?_eq_getElem (by omega)
    obtain ⟨cv, h6, h7⟩ := hrows r row c _ h3 hu
    refine ⟨cv, by rw [hl.sz]; exact h6, ?_⟩
    have h8 := h5 c _ v hu h2 _ _ _ _ _ h7
    by_cases hp' : B'.pure = true
    · simp only [hp', if_true]
      rcases hl.pure hp' with hp | hp
      · simp only [hp, if_true] at h8; exact h8
      · exact clean_V h8 (all_get (all_get hp h1) h2)
    · simp only [hp']
      by_cases hp : B.pure = true
      · simp only [hp, if_true] at h8; exact h8.weaken
      · simp only [hp] at h8; exact h8
  · obtain ⟨row, h3, h4, _⟩ := hl.rows r row' h1
    rw [hl.sz, ← h4]; exact hlen r row h3
theorem WkG.inv {A0 : Allow} {w : World} {G : Nat → Prop} {ρ : Names} {a : Act} {k1 : Nat} {fr1 : Fr} {H1 : Heap} (hw : WkG kb k fr H k1 fr1 H1) (hi : Inv Γ nt w G ρ (alw A0 kb k) a fr H) :
    ∃ ρ', Inv Γ nt w G ρ' (alw A0 kb k1) a fr1 H1 ∧ ∀ A, Step A w G ρ w G ρ' := by
  let ρ' : Names := fun id => match look H1 id with | some _ => ρ id | none => none
  have hρ : ∀ id, ρ' id = none ∨ ρ' id = ρ id := fun id => by
    simp only [ρ']; split
    · exact .inr rfl
    · exact .inl rfl
  have hsome : ∀ id x, ρ' id = some x → ρ id = some x ∧ ∃ B, look H1 id = some B := fun id x h => by
    simp only [ρ'] at h; split at h
    · rename_i B hB; exact ⟨h, B, hB⟩
    · cases h
  have hV : ∀ v cv, V w G ρ (alw A0 kb k) v cv → V w G ρ' (alw A0 kb k) v cv := fun v cv h =>
    h.mono (fun _ h => h) (fun _ _ => rfl) (fun _ _ => rfl) (fun _ h => h) (fun id _ => hρ id)
  have hlow : ∀ i, alw A0 kb k i → i < k1 → alw A0 kb k1 i := fun i h1 h2 => by
    rcases h1 with h1 | h1
    · exact .inl h1
    · exact .inr ⟨h1.1, h2⟩
  have hVl : ∀ v cv, V w G ρ' (fun i => alw A0 kb k i ∧ ltB k1 i = true) v cv → V w G ρ' (alw A0 kb k1) v cv := fun v cv h =>
    h.mono (fun _ h => h) (fun _ _ => rfl) (fun _ _ => rfl) (fun i h => hlow i h.1 (of_decide_eq_true h.2)) (fun _ _ => .inr rfl)
  refine ⟨ρ', ⟨⟨?_, ?_, ?_, hi.rel.ro, hi.rel.glob⟩, hi.size, hi.defers, ?_⟩, fun A => ⟨Nat.le_refl _, fun _ _ _ => rfl, fun _ _ => rfl, fun _ h => h, fun _ h => .inl h, ?_, fun id _ => hρ id, rfl, rfl, rfl⟩⟩
  · intro id h
    simp only [ofHeap, Option.map_eq_none_iff] at h
    simp only [ρ', h]
  · intro id B A h
    simp only [ofHeap, Option.map_eq_some_iff] at h
    obtain ⟨B', hB, he⟩ := h
    cases he
    obtain ⟨C0, hl, hle⟩ := hw.heap id B hB
    obtain ⟨hlt, b, hb, hg, hBR0⟩ := hi.rel.blk id C0 (alw A0 kb k) (by simp [ofHeap, hl])
    have hBR := hBR0.le hle
    refine ⟨?_, b, by simp only [ρ', hB, hb, hle.sz], hg, ?_⟩
    · rcases hw.bound with rfl | ⟨_, hh⟩
      · exact hlt
      · have := look_all hh hB
        simp only [Bool.and_eq_true] at this
        exact hlow _ hlt (of_decide_eq_true this.1)
    · obtain ⟨⟨C, ty, hC, hrows⟩, hlen⟩ := hBR
      refine ⟨⟨C, ty, hC, fun r row c v hr hc => ?_⟩, hlen⟩
      obtain ⟨cv, h1, h2⟩ := hrows r row c v hr hc
      refine ⟨cv, h1, ?_⟩
      by_cases hp : B.pure = true
      · simp only [hp, if_true] at h2 ⊢; exact h2
      · simp only [hp] at h2 ⊢
        have h3 := hV v cv h2
        rcases hw.bound with rfl | ⟨_, hh⟩
        · exact h3
        · have := look_all hh hB
          simp only [Bool.and_eq_true, Bool.or_eq_true] at this
          have h5 := this.2.resolve_left hp
          have h4 := all_get (all_get h5 hr) hc
          exact hVl _ _ (V_bd0 h3 h4)
  · intro i j b s t h1 h2
    exact hi.rel.inj i j b s t (hsome _ _ h1).1 (hsome _ _ h2).1
  · intro t v h
    obtain ⟨u, hu, hle⟩ := hw.frm t v h
    have h1 := hV _ _ (hle _ _ _ _ _ (hi.frm t u hu))
    rcases hw.bound with rfl | ⟨hf, _⟩
    · exact h1
    · exact hVl _ _ (V_bd h1 (look_all hf h))
  · rintro b ⟨id, s, hb⟩
    exact .inl ⟨id, s, (hsome _ _ hb).1⟩
def upG (kb : Nat) (Q : AQ) : AQ := fun e k fr H => ∃ k1 fr1 H1, WkG kb k fr H k1 fr1 H1 ∧ Q e k1 fr1 H1
theorem W_upG {c : Code} (h : W P Γ nt kb c (upG kb Q) k fr H) : W P Γ nt kb c Q k fr H := fun A0 hA0 hk w G ρ a hi =>
  wp_mono (h A0 hA0 hk w G ρ a hi) fun e a' w' hp => by
    obtain ⟨G', ρ', k', fr', H', ⟨k1, fr1, H1, hw, hQ⟩, hk', hi', hst⟩ := hp
    obtain ⟨ρ1, hi1, hs1⟩ := hw.inv hi'
    exact ⟨G', ρ1, k1, fr1, H1, hQ, hw.base, hi1, hst.trans (hs1 (below kb)) (fun _ h => h)⟩
def frz0 (id : Nat) (B : Blk) : AVal → AVal
  | .sl i r n => if i = id ∧ r + n ≤ B.rows.length then .rd B.sz n (fun j => B.rows.getD (r + j) []) else .sl i r n
  | .ptr i r c => if i = id ∧ r < B.rows.length then .rp ((B.rows.getD r []).drop c) else .ptr i r c
  | v => v
def frz (id : Nat) (B : Blk) : AVal → AVal
  | .agg cs => .agg (cs.map (frz0 id B))
  | .fn f cs => .fn f (cs.map (frz0 id B))
  | v => frz0 id B v
def frzF (id : Nat) (B : Blk) (fr : Fr) : Fr := fr.map fun x => (x.1, frz id B x.2)
def frzB (id : Nat) (B : Blk) (C : Blk) : Blk := if C.pure then C else ⟨C.sz, false, C.rows.map fun row => row.map (frz0 id B)⟩
def frzH (id : Nat) (B : Blk) (H : Heap) : Heap := (del H id).map fun x => (x.1, frzB id B x.2)
theorem look_map {α β : Type} (f : α → β) : ∀ (l : List (Nat × α)) (i : Nat), look (l.map fun x => (x.1, f x.2)) i = (look l i).map f
  | [], i => rfl
  | (a, x) :: r, i => by
    simp only [List.map_cons, look]
    by_cases h : a = i
    · rw [if_pos h, if_pos h]; rfl
    · rw [if_neg h, if_neg h]; exact look_map f r i
theorem frz0_V {w : World} {G G' : Nat → Prop} {ρ : Names} {A A' : Allow} {id b : Nat} {B : Blk} (hG : ∀ x, G x → G' x) (hGb : G' b) (hρ : ρ id = some (b, B.sz)) (hB : BRel w G ρ A B b) (hp : B.pure = true) {v : AVal} {cv : Value} (hv : V w G ρ A' v cv) :
    V w G' (setN ρ id none) A' (frz0 id B v) cv := by
  have base : ∀ u cu, V w G ρ A' u cu → V w G' (setN ρ id none) A' u cu := fun u cu h =>
    h.mono hG (fun _ _ => rfl) (fun _ _ => rfl) (fun _ h => h) (fun i _ => by
      simp only [setN]; split
      · exact .inl rfl
      · exact .inr rfl)
  cases hv with
  | nn => simp only [frz0]; exact .nn
  | dangc ha hr => exact base _ _ (.dangc ha hr)
  | slc h1 h2 h3 h4 h5 h6 h7 => exact base _ _ (.slc h1 h2 h3 h4 h5 h6 h7)
  | bfn h => exact base _ _ (.bfn h)
  | sl ha hr hsh hm hn hc hoff =>
    rename_i i r n b' s ty m cap off
    simp only [frz0]
    split
    · rename_i hcond
      obtain ⟨rfl, hle⟩ := hcond
      rw [hρ] at hr; cases hr
      by_cases hn0 : n = 0
      · subst hn0; exact .rd0
      · have hoff' := hoff.resolve_left (by omega)
        subst hoff'
        obtain ⟨⟨C, ty', hC, hrows⟩, hlen⟩ := hB.old hsh
        have hrow : ∀ j, j < n → B.rows[r + j]? = some (B.rows.getD (r + j) []) := fun j hj => by
          rw [List.getD_eq_getElem?_getD, List.getElem?_eq_getElem (by omega)]; rfl
        refine .rd (fun j c => C.getD ((r + j) * B.sz + c) undef) hGb hn (by omega) (fun j hj => hlen _ _ (hrow j hj)) (fun j c v hj hc' => ?_) (fun j c v hj hc' => ?_)
        · obtain ⟨cu, h1, _⟩ := hrows _ _ c v (hrow j hj) hc'
          rw [cell_of_row w b _ C ty' (0, 0) hC]
          have e : r * B.sz + j * B.sz + c = (r + j) * B.sz + c := by rw [Nat.add_mul]
          rw [e, h1, Array.getD_eq_getD_getElem?, h1]; rfl
        · obtain ⟨cu, h1, h2⟩ := hrows _ _ c v (hrow j hj) hc'
          simp only [hp, if_true] at h2
          have e : C.getD ((r + j) * B.sz + c) undef = cu := by rw [Array.getD_eq_getD_getElem?, h1]; rfl
          rw [e]
          exact h2.mono hG (fun _ _ => rfl) (fun _ _ => rfl) (fun _ h => h) (fun _ h => h.elim)
    · exact base _ _ (.sl ha hr hsh hm hn hc hoff)
  | sl0 ha hr =>
    simp only [frz0]
    split
    · exact .rd0
    · exact base _ _ (.sl0 ha hr)
  | dangs ha hr =>
    rename_i i r n x m c
    simp only [frz0]
    split
    · rename_i hcond
      obtain ⟨rfl, _⟩ := hcond
      rw [hρ] at hr; cases hr
    · exact base _ _ (.dangs ha hr)
  | junk => exact base _ _ .junk
  | lit => exact base _ _ .lit
  | dang ha hr =>
    rename_i i r c x
    simp only [frz0]
    split
    · rename_i hcond
      obtain ⟨rfl, _⟩ := hcond
      rw [hρ] at hr; cases hr
    · exact base _ _ (.dang ha hr)
  | dangm ha hr => exact base _ _ (.dangm ha hr)
  | mp ha hr hs => exact base _ _ (.mp ha hr hs)
  | dangi ha hr => exact base _ _ (.dangi ha hr)
  | it ha hr hs => exact base _ _ (.it ha hr hs)
  | ptr ha hr hsh =>
    rename_i i r c b' s _ _
    simp only [frz0]
    split
    · rename_i hcond
      obtain ⟨rfl, hlt⟩ := hcond
      rw [hρ] at hr; cases hr
      obtain ⟨⟨C, ty', hC, hrows⟩, hlen⟩ := hB.old hsh
      have hrow : B.rows[r]? = some (B.rows.getD r []) := by
        rw [List.getD_eq_getElem?_getD, List.getElem?_eq_getElem hlt]; rfl
      refine .rp (fun j => C.getD (r * B.sz + (c + j)) undef) hGb (fun j v hj => ?_) (fun j v hj => ?_)
      · rw [List.getElem?_drop] at hj
        obtain ⟨cu, h1, _⟩ := hrows _ _ _ v hrow hj
        rw [cell_of_row w b _ C ty' (0, 0) hC, Nat.add_assoc, h1, Array.getD_eq_getD_getElem?, h1]; rfl
      · rw [List.getElem?_drop] at hj
        obtain ⟨cu, h1, h2⟩ := hrows _ _ _ v hrow hj
        simp only [hp, if_true] at h2
        have e : C.getD (r * B.sz + (c + j)) undef = cu := by rw [Array.getD_eq_getD_getElem?, h1]; rfl
        rw [e]
        exact h2.mono hG (fun _ _ => rfl) (fun _ _ => rfl) (fun _ h => h) (fun _ h => h.elim)
    · exact base _ _ (.ptr ha hr hsh)
  | rp g h1 h2 h3 => exact base _ _ (.rp g h1 h2 h3)
  | rd0 => exact base _ _ .rd0
  | rd g h1 h2 h3 h4 h5 h6 => exact base _ _ (.rd g h1 h2 h3 h4 h5 h6)
  | agg h1 h2 => exact base _ _ (.agg h1 h2)
  | tup h1 h2 => exact base _ _ (.tup h1 h2)
  | fn h1 h2 => exact base _ _ (.fn h1 h2)
theorem frz_V {w : World} {G G' : Nat → Prop} {ρ : Names} {A A' : Allow} {id b : Nat} {B : Blk} (hG : ∀ x, G x → G' x) (hGb : G' b) (hρ : ρ id = some (b, B.sz)) (hB : BRel w G ρ A B b) (hp : B.pure = true) {v : AVal} {cv : Value} (hv : V w G ρ A' v cv) :
    V w G' (setN ρ id none) A' (frz id B v) cv := by
  cases v with
  | agg cells =>
    cases hv with
    | agg h1 h2 =>
      refine .agg (by simpa using h1) fun j u hj => ?_
      rw [List.getElem?_map] at hj
      simp only [Option.map_eq_some_iff] at hj
      obtain ⟨u', hu', rfl⟩ := hj
      exact frz0_V hG hGb hρ hB hp (h2 j u' hu')
  | fn f cells =>
    cases hv with
    | fn h1 h2 =>
      refine .fn (by simpa using h1) fun j u hj => ?_
      rw [List.getElem?_map] at hj
      simp only [Option.map_eq_some_iff] at hj
      obtain ⟨u', hu', rfl⟩ := hj
      exact frz0_V hG hGb hρ hB hp (h2 j u' hu')
  | _ => exact frz0_V hG hGb hρ hB hp hv
theorem freeze_inv {A : Allow} {w : World} {G : Nat → Prop} {ρ : Names} {a : Act} {id : Nat} {B : Blk} (hB : look H id = some B) (hp : B.pure = true) (hi : Inv Γ nt w G ρ A a fr H) :
    ∃ G' ρ', Inv Γ nt w G' ρ' A a (frzF id B fr) (frzH id B H) ∧ ∀ S, Step S w G ρ w G' ρ' := by
  obtain ⟨hA, b, hb, hg, hBR⟩ := hi.rel.blk id B A (by simp [ofHeap, hB])
  let G' : Nat → Prop := fun x => G x ∨ x = b
  have hst : ∀ S : Allow, Step S w G ρ w G' (setN ρ id none) := fun S => by
    refine ⟨Nat.le_refl _, fun _ _ _ => rfl, fun _ _ => rfl, fun _ h => .inl h, fun x h => ?_, ?_, fun i _ => ?_, rfl, rfl, rfl⟩
    · rcases h with h | h
      · exact .inl h
      · exact .inr (.inl (h ▸ ⟨id, _, hb⟩))
    · rintro x ⟨i, s, hx⟩
      simp only [setN] at hx
      split at hx
      · cases hx
      · exact .inl ⟨i, s, hx⟩
    · simp only [setN]; split
      · exact .inl rfl
      · exact .inr rfl
  have hV : ∀ A' v cv, V w G ρ A' v cv → V w G' (setN ρ id none) A' (frz id B v) cv := fun A' v cv h => frz_V (fun _ h => .inl h) (.inr rfl) hb hBR hp h
  have hV0 : ∀ A' v cv, V w G ρ A' v cv → V w G' (setN ρ id none) A' (frz0 id B v) cv := fun A' v cv h => frz0_V (fun _ h => .inl h) (.inr rfl) hb hBR hp h
  refine ⟨G', setN ρ id none, ⟨?_, hi.size, hi.defers, fun t v hv => ?_⟩, hst⟩
  · refine hi.rel.after (hst (fun _ => True)) _ (fun i hi' => ?_) (fun i C A1 hi' => ?_) (fun i j c s t h1 h2 => ?_) (fun x hx => ?_)
    · simp only [ofHeap, Option.map_eq_none_iff, frzH] at hi'
      rw [look_map, Option.map_eq_none_iff, look_del] at hi'
      simp only [setN]
      split at hi'
      · rename_i he; rw [if_pos he]
      · rename_i he; rw [if_neg he]; exact hi.rel.dom i (by simp [ofHeap, hi'])
    · simp only [ofHeap, Option.map_eq_some_iff, frzH] at hi'
      obtain ⟨C', hC', he⟩ := hi'
      cases he
      rw [look_map, Option.map_eq_some_iff] at hC'
      obtain ⟨D, hD, rfl⟩ := hC'
      rw [look_del] at hD
      split at hD
      · cases hD
      · rename_i hne
        obtain ⟨h1, b', h2, h3, h4⟩ := hi.rel.blk i D A (by simp [ofHeap, hD])
        have hbne : b' ≠ b := fun he => hne (hi.rel.inj i id _ _ _ h2 (he ▸ hb))
        have hg' : ¬ G' b' := fun h => h.elim h3 hbne
        have hsz : (frzB id B D).sz = D.sz := by unfold frzB; split <;> rfl
        refine ⟨h1, .inr ⟨b', by simp only [setN, hne, if_false, h2, hsz], hg', ?_⟩⟩
        unfold frzB
        split
        · rename_i hpd
          exact h4.step hi.rel (hst (fun _ => True)) (fun _ _ => trivial) (fun _ h => h) rfl
        · rename_i hpd
          obtain ⟨⟨C, ty, hC, hrows⟩, hlen⟩ := h4
          have hgr : ∀ (r : Nat) row, (D.rows.map fun row => row.map (frz0 id B))[r]? = some row → ∃ row0, D.rows[r]? = some row0 ∧ row = row0.map (frz0 id B) := fun r row h => by
            rw [List.getElem?_map] at h
            simp only [Option.map_eq_some_iff] at h
            obtain ⟨row0, h5, rfl⟩ := h
            exact ⟨row0, h5, rfl⟩
          refine ⟨⟨C, ty, hC, fun r row c v h5 h6 => ?_⟩, fun r row h5 => ?_⟩
          · obtain ⟨row0, h7, rfl⟩ := hgr r row h5
            rw [List.getElem?_map] at h6
            simp only [Option.map_eq_some_iff] at h6
            obtain ⟨v0, h8, rfl⟩ := h6
            obtain ⟨cv, h9, h10⟩ := hrows r row0 c v0 h7 h8
            simp only [hpd] at h10
            exact ⟨cv, h9, by simp only [Bool.false_eq_true, if_false]; exact hV0 _ _ _ h10⟩
          · obtain ⟨row0, h7, rfl⟩ := hgr r row h5
            simpa using hlen r row0 h7
    · simp only [setN] at h1 h2
      split at h1
      · cases h1
      · split at h2
        · cases h2
        · exact hi.rel.inj i j c s t h1 h2
    · rcases hx with hx | rfl
      · exact hi.rel.ro x hx
      · exact hi.rel.owned_lt ⟨id, _, hb⟩
  · unfold frzF at hv
    rw [look_map, Option.map_eq_some_iff] at hv
    obtain ⟨u, hu, rfl⟩ := hv
    exact hV _ _ _ (hi.frm t u hu)
theorem Tr.weaken {f : FuncId} {args : List AVal} {H : Heap} {Q Q' : Nat → AVal → Heap → Prop} (h : Tr P Γ f k args H Q')
    (hq : ∀ k' r H', k ≤ k' → Q' k' r H' → ∃ k1 r1 H1, k ≤ k1 ∧ VLe r r1 ∧ (∀ id B, look H1 id = some B → ∃ C, look H' id = some C ∧ BLe C B) ∧ (k1 = k' ∨ (bd (ltB k1) r1 = true ∧ bdH (ltB k1) H1 = true)) ∧ Q k1 r1 H1) : Tr P Γ f k args H Q := by
  intro A hA w G ρ cargs h1 h2
  refine (h A hA w G ρ cargs h1 h2).mono ?_
  rintro e w' ⟨cv, G', ρ', k', r, H', rfl, hQ, hk, hrel, hv, hst⟩
  obtain ⟨k1, r1, H1, hk1, hle, hH, hb, hQ1⟩ := hq k' r H' hk hQ
  have hi : Inv Γ 1 w' G' ρ' (alw A k k') { tmps := #[cv], defers := [] } [(0, r)] H' := ⟨hrel, rfl, rfl, fun t v hv' => by
    simp only [look] at hv'
    split at hv'
    · rename_i he; subst he; cases hv'; exact hv
    · cases hv'⟩
  have hw : WkG k k' [(0, r)] H' k1 [(0, r1)] H1 := ⟨hk1, fun t v hv' => by
    simp only [look] at hv' ⊢
    split at hv'
    · rename_i he; cases hv'; exact ⟨r, by rw [if_pos he], hle⟩
    · exact absurd hv' (by simp), hH, hb.imp id (fun h => ⟨by simp [bdF, h.1], h.2⟩)⟩
  obtain ⟨ρ1, hi1, hs1⟩ := hw.inv hi
  exact ⟨cv, G', ρ1, k1, r1, H1, rfl, hQ1, hk1, hi1.rel, hi1.frm 0 r1 (by simp [look]), hst.trans (hs1 (below k)) (fun _ h => h)⟩
def Pure (P : Program) (Γ : List (Nat × List AVal)) (f : FuncId) (args : List AVal) (r : AVal) : Prop := ∀ k, Tr P Γ f k args [] (fun k1 r1 H1 => k1 = k ∧ r1 = r ∧ H1 = [])
theorem Pure_body {f : FuncId} {fn : Func} {c : Code} {args : List AVal} {r : AVal} (hf : P.funcs[f]? = some fn) (hb : fn.body = some c) (hn : args.length ≤ fn.ntmps) (hr : bd (fun _ => false) r = true)
    (h : ∀ k, W P Γ fn.ntmps k c (retQ P fn (fun _ r1 _ => VLe r1 r)) k (argFr 0 args) []) : Pure P Γ f args r := fun k => by
  refine (Tr_body hf hb hn (h k)).weaken fun k' r1 H' hk hle => ⟨k, r, [], Nat.le_refl _, hle, fun id B hB => by simp [look] at hB, .inr ⟨?_, rfl⟩, rfl, rfl, rfl⟩
  have mono0 : ∀ v, bd0 (fun _ => false) v = true → bd0 (ltB k) v = true := fun v hv => by cases v <;> simp_all [bd0]
  have mono1 : ∀ v, bd1 (fun _ => false) v = true → bd1 (ltB k) v = true := fun v hv => by
    cases v with
    | agg cs => exact List.all_eq_true.2 fun x hx => mono0 x (List.all_eq_true.1 hv x hx)
    | fn f cs => exact List.all_eq_true.2 fun x hx => mono0 x (List.all_eq_true.1 hv x hx)
    | _ => simp_all [bd1, bd0]
  cases r with
  | tup cs => exact List.all_eq_true.2 fun x hx => mono1 x (List.all_eq_true.1 hr x hx)
  | agg cs => exact mono1 (.agg cs) hr
  | fn f cs => exact mono1 (.fn f cs) hr
  | _ => simp_all [bd, bd1, bd0]
end
end Go.AM
end
