import Derived.Test.YtkiadljldlppbaaGreatDoorZAG
import Derived.Lib.LaidTab
set_option linter.unusedVariables false
set_option linter.unusedSimpArgs false
section
namespace Go.Proofs.T
open Go Go.AM Go.Proofs
set_option maxRecDepth 20000
variable {Γ : List (Nat × List AVal)}
instance : Inhabited Tk := ⟨⟨0, 0, 0, 0, 0, false, 0, 0⟩⟩
instance : Inhabited Sp := ⟨⟨0, 0, 0⟩⟩
structure LSt where
  cpus : Int
  credit : Int
  gl : List (Int × Int)
  kl : List Int
  ul : List Int
  tl : List Tk
  sl : List (List Sp)
def LSt.st (L : LSt) : St := ⟨L.cpus, L.credit, L.gl.length, fun i => (L.gl.getD i (0, 0)).1, fun i => (L.gl.getD i (0, 0)).2, L.kl.length, fun i => L.kl.getD i 0, L.ul.length, fun i => L.ul.getD i 0, L.tl.length, fun i => L.tl.getD i default,
  L.sl.length, fun g => (L.sl.getD g []).length, fun g c => (L.sl.getD g []).getD c default⟩
def LSt.sp (L : LSt) (g c : Nat) : Sp := (L.sl.getD g []).getD c default
def LSt.par (L : LSt) (g : Nat) : Int := (L.gl.getD g (0, 0)).1
def LSt.wt (L : LSt) (g : Nat) : Int := (L.gl.getD g (0, 0)).2
def LSt.tsk (L : LSt) (i : Nat) : Tk := L.tl.getD i default
def LSt.clk (L : LSt) (c : Nat) : Int := L.kl.getD c 0
def LSt.cur (L : LSt) (c : Nat) : Int := L.ul.getD c 0
def tkc (k : Tk) : List AVal := [.lit (.int .i64 k.id), .lit (.int .i64 k.group), .lit (.int .i64 k.weight), .lit (.int .i64 k.cpu), .lit (.int .u64 k.mask), .lit (.bool k.ready), .lit (.int .u64 k.v), .lit (.int .u32 k.r)]
def spc (k : Sp) : List AVal := [.lit (.int .u64 k.v), .lit (.int .u32 k.r), .lit (.int .u64 k.floor)]
def glc (g : Int × Int) : List AVal := [.lit (.int .i64 g.1), .lit (.int .i64 g.2)]
def inc (n : Int) : List AVal := [.lit (.int .i64 n)]
def glR (L : LSt) : List (List AVal) := L.gl.map glc
def klR (L : LSt) : List (List AVal) := L.kl.map inc
def ulR (L : LSt) : List (List AVal) := L.ul.map inc
def tlR (L : LSt) : List (List AVal) := L.tl.map tkc
def slR (L : LSt) (g : Nat) : List (List AVal) := (L.sl.getD g []).map spc
def ouF (m : Nat) (L : LSt) (g : Nat) : List AVal := [.sl (m + 6 + g) 0 (L.sl.getD g []).length]
def ouR (m : Nat) (L : LSt) : List (List AVal) := (List.range L.sl.length).map (ouF m L)
def stc (m tk : Nat) (L : LSt) : List AVal := [.lit (.int .i64 L.cpus), .lit (.int .u64 L.credit), .sl (m + 1) 0 L.gl.length, .sl (m + 2) 0 L.kl.length, .sl (m + 3) 0 L.ul.length, .sl tk 0 L.tl.length, .sl (m + 5) 0 L.sl.length]
def mrow (m tk : Nat) (L : LSt) : List AVal := [.lit (.int .i64 L.cpus), .lit (.int .u64 L.credit), .sl (m + 1) 0 L.gl.length, .sl (m + 2) 0 L.kl.length, .sl (m + 3) 0 L.ul.length, .sl tk 0 L.tl.length, .sl (m + 5) 0 L.sl.length, .lit (.bool true)]
def LH (m tk : Nat) (L : LSt) : Heap := (m + 1, ⟨2, true, glR L⟩) :: (m + 2, ⟨1, true, klR L⟩) :: (m + 3, ⟨1, true, ulR L⟩) :: (m + 5, ⟨1, false, ouR m L⟩) :: (tk, ⟨8, true, tlR L⟩) :: fam (m + 6) 3 L.sl.length (slR L)
def MH (m tk : Nat) (L : LSt) : Heap := (m, ⟨8, false, [mrow m tk L]⟩) :: LH m tk L
theorem look_fam6 {m s n g : Nat} {R : Nat → List (List AVal)} (h : g < n) : AM.look (fam (m + 6) s n R) (m + (6 + g)) = some ⟨s, true, R g⟩ := by rw [← Nat.add_assoc]; exact look_fam h
theorem setH_fam6 {m s n g : Nat} {R : Nat → List (List AVal)} {rows : List (List AVal)} (h : g < n) : setH (fam (m + 6) s n R) (m + (6 + g)) ⟨s, true, rows⟩ = fam (m + 6) s n (fun j => if j = g then rows else R j) := by rw [← Nat.add_assoc]; exact setH_fam h
attribute [go_sem] look_fam6 setH_fam6
theorem glR_len (L : LSt) : (glR L).length = L.gl.length := List.length_map _
theorem klR_len (L : LSt) : (klR L).length = L.kl.length := List.length_map _
theorem ulR_len (L : LSt) : (ulR L).length = L.ul.length := List.length_map _
theorem tlR_len (L : LSt) : (tlR L).length = L.tl.length := List.length_map _
theorem ouR_len (m : Nat) (L : LSt) : (ouR m L).length = L.sl.length := by simp [ouR]
theorem slR_len (L : LSt) (g : Nat) : (slR L g).length = (L.sl.getD g []).length := List.length_map _
theorem glR_get {L : LSt} {i : Nat} (h : i < L.gl.length) : (glR L)[i]? = some [.lit (.int .i64 (L.par i)), .lit (.int .i64 (L.wt i))] := by simp [glR, h, List.getD, glc, LSt.par, LSt.wt]
theorem klR_get {L : LSt} {i : Nat} (h : i < L.kl.length) : (klR L)[i]? = some [.lit (.int .i64 (L.clk i))] := by simp [klR, h, List.getD, inc, LSt.clk]
theorem ulR_get {L : LSt} {i : Nat} (h : i < L.ul.length) : (ulR L)[i]? = some [.lit (.int .i64 (L.cur i))] := by simp [ulR, h, List.getD, inc, LSt.cur]
theorem tlR_get {L : LSt} {i : Nat} (h : i < L.tl.length) : (tlR L)[i]? = some (tkc (L.tsk i)) := by simp [tlR, h, List.getD, LSt.tsk]
theorem ouR_get {m : Nat} {L : LSt} {i : Nat} (h : i < L.sl.length) : (ouR m L)[i]? = some [.sl (m + 6 + i) 0 (L.sl.getD i []).length] := by simp [ouR, h, ouF]
theorem slR_get {L : LSt} {g i : Nat} (h : i < (L.sl.getD g []).length) : (slR L g)[i]? = some (spc (L.sp g i)) := by
  unfold slR LSt.sp
  generalize L.sl.getD g [] = l at *
  simp [h, List.getD]
theorem ouR_all {m k : Nat} {L : LSt} (h : m + 6 + L.sl.length ≤ k) : ((ouR m L).all fun row => row.all (bd0 (ltB k))) = true := by
  rw [List.all_eq_true]
  intro row hrow
  simp only [ouR, List.mem_map, List.mem_range] at hrow
  obtain ⟨g, hg, rfl⟩ := hrow
  simp only [ouF, List.all_cons, List.all_nil, bd0, Bool.and_true, ltB, decide_eq_true_eq]
  omega
attribute [go_sem] tkc spc glR_len klR_len ulR_len tlR_len ouR_len slR_len glR_get klR_get ulR_get tlR_get ouR_get slR_get ouR_all mrow
theorem keyB_MH {m tk : Nat} {L : LSt} {i : Nat} (h : keyB (MH m tk L) i = true) : i = m ∨ i = m + 1 ∨ i = m + 2 ∨ i = m + 3 ∨ i = m + 5 ∨ i = tk ∨ (m + 6 ≤ i ∧ i < m + 6 + L.sl.length) := by
  simp only [keyB, MH, LH, AM.look] at h
  repeat' (split at h; (· omega))
  obtain ⟨B, hB⟩ := Option.isSome_iff_exists.1 h
  have := look_famI hB
  omega
theorem MH_keyB {m tk : Nat} {L : LSt} : bdH (keyB (MH m tk L)) (MH m tk L) = true := by
  have hk : ∀ i, i = m ∨ i = m + 1 ∨ i = m + 2 ∨ i = m + 3 ∨ i = m + 5 ∨ i = tk ∨ (m + 6 ≤ i ∧ i < m + 6 + L.sl.length) → keyB (MH m tk L) i = true := fun i hi => by
    simp only [keyB, MH, LH, AM.look]
    repeat' split
    all_goals (first | rfl | skip)
    obtain ⟨g, rfl⟩ : ∃ g, i = m + 6 + g := ⟨i - (m + 6), by omega⟩
    rw [look_fam (by omega)]; rfl
  have hfam : ∀ (p : Nat → Bool) (n f : Nat) (R : Nat → List (List AVal)), (∀ g, g < n → p (f + g) = true) → bdH p (fam f 3 n R) = true := by
    intro p n
    induction n with
    | zero => intros; rfl
    | succ n ih =>
      intro f R h
      simp only [fam, bdH, List.all_cons, Bool.true_or, Bool.and_true, Bool.and_eq_true]
      refine ⟨by have := h 0 (by omega); simpa using this, ih (f + 1) _ (fun g hg => by have := h (g + 1) (by omega); rw [← this]; congr 1; omega)⟩
  generalize hp : keyB (MH m tk L) = p at *
  have h0 := hk m (by omega); have h1 := hk (m + 1) (by omega); have h2 := hk (m + 2) (by omega); have h3 := hk (m + 3) (by omega); have h5 := hk (m + 5) (by omega); have h6 := hk tk (by omega)
  have hf := hfam p L.sl.length (m + 6) (slR L) (fun g hg => hk _ (by omega))
  have hou : ((ouR m L).all fun row => row.all (bd0 p)) = true := by
    rw [List.all_eq_true]
    intro row hrow
    simp only [ouR, List.mem_map, List.mem_range] at hrow
    obtain ⟨g, hg, rfl⟩ := hrow
    simp only [ouF, List.all_cons, List.all_nil, bd0, Bool.and_true]
    exact hk _ (by omega)
  have e : bdH p (MH m tk L) = true := by
    simp only [bdH] at hf
    simp [bdH, MH, LH, mrow, bd0, h0, h1, h2, h3, h5, h6, hf, hou]
  exact e
theorem look_MH {m tk : Nat} {L : LSt} : AM.look (MH m tk L) m = some ⟨8, false, [mrow m tk L]⟩ := by simp [MH, AM.look]
attribute [go_sem] MH_keyB look_MH
theorem MH_lt {m tk k : Nat} {L : LSt} (h1 : m + 6 + L.sl.length ≤ tk) (h2 : tk < k) : bdH (ltB k) (MH m tk L) = true := by
  have hf := bdH_fam (s := 3) (R := slR L) (show m + 6 + L.sl.length ≤ k by omega)
  have ho := ouR_all (L := L) (m := m) (show m + 6 + L.sl.length ≤ k by omega)
  simp only [bdH] at hf
  simp only [bdH, MH, LH, mrow, List.all_cons, List.all_nil, bd0, ltB, hf, Bool.true_or, Bool.false_or, Bool.and_true, Bool.and_eq_true, decide_eq_true_eq]
  exact ⟨⟨by omega, trivial, trivial, by omega, by omega, by omega, by omega, by omega⟩, by omega, by omega, by omega, ⟨by omega, ho⟩, by omega, hf⟩
end Go.Proofs.T
end
section
namespace Go.AM
open Go
section
variable {P : Program} {kb : Nat} {k : Nat} {fr : Fr} {H : Heap}
theorem Mv.cut (id n : Nat) {s : Nat} {p : Bool} {rows : List (List AVal)} (hB : AM.look H id = some ⟨s, p, rows⟩) : Mv kb k fr H k fr (setH H id ⟨s, p, rows.take n⟩) := fun hkb => ⟨hkb, fun Γ nt A0 w G ρ ac hA hi => by
  refine ⟨G, ρ, ⟨⟨fun i h => ?_, fun i B' A h => ?_, hi.rel.inj, hi.rel.ro, hi.rel.glob⟩, hi.size, hi.defers, hi.frm⟩, Step.refl _ _ _ _⟩
  · simp only [ofHeap, Option.map_eq_none_iff, look_setH] at h
    split at h
    · cases h
    · exact hi.rel.dom i (by simp [ofHeap, h])
  · simp only [ofHeap, Option.map_eq_some_iff, look_setH] at h
    obtain ⟨B1, h, he⟩ := h
    cases he
    split at h
    · rename_i e
      subst e
      cases h
      obtain ⟨h1, b, h2, h3, ⟨⟨C, ty, hC, hrows⟩, hlen⟩⟩ := hi.rel.blk i ⟨s, p, rows⟩ (alw A0 kb k) (by simp [ofHeap, hB])
      exact ⟨h1, b, h2, h3, ⟨⟨C, ty, hC, fun r row c v h5 h6 => hrows r row c v (take_get h5).2 h6⟩, fun r row h5 => hlen r row (take_get h5).2⟩⟩
    · exact hi.rel.blk i _ _ (by simp [ofHeap, h])⟩
end
end Go.AM
end
section
namespace Go.AM
open Go
section
variable {P : Program} {Γ : List (Nat × List AVal)} {o : Oper} {ev : Operand → Option AVal} {get : Nat → Option Blk} {k : Nat}
theorem good_deS {out : Out} (h : Good P Γ o (fun x => (ev x).map deS) get k out) : Good P Γ o ev get k out := by
  obtain ⟨h1, h2, h3⟩ := h
  refine ⟨fun w G ρ H A a hr hA hf hrd hop next Q hn => h1 w G ρ H A a hr hA hf hrd (fun x hx v hv => ?_) next Q hn, h2, h3⟩
  simp only [Option.map_eq_some_iff] at hv
  obtain ⟨u, hu, rfl⟩ := hv
  exact deS_V (hop x hx u hu)
theorem aop_deS {out : Out} (h : aop P Γ o (fun x => (ev x).map deS) get k = some out) : Good P Γ o ev get k out := good_deS (aop_good h)
theorem lenc_good {x : Operand} {t id r n c : Nat} {B : Blk} (ho : o.op = .call { callee := .builtin .len, args := #[x], argTypes := #[t] }) (ht : isSliceT P t = true) (hx : ev x = some (.slc id r n c)) (hB : get id = some B) :
    Good P Γ o ev get k ⟨.lit (.int .i64 n), k, [], [id]⟩ :=
  aop_deS (by simp [aop, ho, args1, lenO, hx, deS, hB, ht, qOut])
theorem app0_good {t s s' by' id r n c : Nat} {x y : Operand} {v : AVal} {zrow : List AVal} {rows : List (List AVal)} {p : Bool} {ids : List Nat} {B : Blk} (ho : o.op = .call { callee := .builtin .append, args := #[x, y], argTypes := #[t, t] }) (hz : ezero P t = some (s, by', zrow))
    (hx : ev x = some (.slc id r n c)) (hB : get id = some B) (hy : ev y = some v) (hs : SrcA get (deS v) s' 0 rows p ids) :
    Good P Γ o ev get k ⟨.slc id r n c, k, [], id :: ids⟩ := by
  refine ⟨OpOk_quiet fun w G ρ H A a hr hrd hop => ?_, rds_cons hB hs.some, Nat.le_refl _⟩
  have hvx := hop x (by simp [ho, Op.operands, Call.operands]) _ hx
  have hvy := deS_V (hop y (by simp [ho, Op.operands, Call.operands]) _ hy)
  have hxs : ∃ base n cap, a.eval x = .slice base n cap ∧ n ≤ cap := by
    generalize a.eval x = cv at hvx
    obtain ⟨B', A', h2, hH, _⟩ := hrd id (by simp)
    obtain ⟨_, b, hb, _⟩ := hr.blk id B' A' hH
    cases hvx with
    | dangc _ hn => rw [hb] at hn; cases hn
    | slc _ _ _ _ h5 => exact ⟨_, _, _, rfl, h5⟩
  have hys : ∃ q c, a.eval y = .slice q 0 c := by
    generalize a.eval y = cv at hvy
    generalize hu : deS v = u at hvy hs
    cases hs with
    | nil => cases hvy; exact ⟨_, _, rfl⟩
    | rd => cases hvy with
      | rd0 => exact ⟨_, _, rfl⟩
      | rd => exact ⟨_, _, rfl⟩
    | sl hB hle =>
      rename_i id r B
      obtain ⟨B', A', h2, hH, _⟩ := hrd id (by simp)
      obtain ⟨_, b, hb, _⟩ := hr.blk id B' A' hH
      cases hvy with
      | dangs _ hn => rw [hb] at hn; cases hn
      | sl => exact ⟨_, _, rfl⟩
      | sl0 => exact ⟨_, _, rfl⟩
  obtain ⟨base, n, cap, ex, hcap⟩ := hxs
  obtain ⟨q, c, ey⟩ := hys
  unfold ezero at hz
  split at hz
  · rename_i e he
    split at hz
    · rename_i i hi
      rw [ex] at hvx
      refine ⟨.slice base n cap, ?_, hvx⟩
      have := run_append0 (P := P) w t o.type e i he hi base q n cap c hcap
      simp only [execOp, ho, resolve, invoke, builtin, List.map_toArray, List.map_cons, List.map_nil, ex, ey, Sem.run_bind, Sem.run_pure, Result.andThen_ok, this]
    · cases hz
  · cases hz
theorem slc_goodE {t id r n c r' n' c' : Nat} {x : Operand} {lo hi : Option Operand} {B : Blk} {l h : Int} (ho : o.op = .slice t x lo hi none) (hB : get id = some B) (ht : esz P t = some B.sz) (hx : ev x = some (.slc id r n c))
    (hl : bound ev lo 0 = some l) (hh : bound ev hi n = some h) (h0 : 0 ≤ l) (h1 : l ≤ h) (h2 : h ≤ c) (e1 : r + l.toNat = r') (e2 : h.toNat - l.toNat = n') (e3 : c - l.toNat = c') : Good P Γ o ev get k ⟨.slc id r' n' c', k, [], [id]⟩ := by
  subst e1; subst e2; subst e3
  exact slc_good ho hB ht hx hl hh h0 h1 h2
theorem appin_goodE {x y : Operand} {t id n c m s by' nm : Nat} {zrow : List AVal} {B : Blk} {v : AVal} {rows : List (List AVal)} {p q : Bool} {ids : List Nat}
    (ho : o.op = .call { callee := .builtin .append, args := #[x, y], argTypes := #[t, t] }) (hz : ezero P t = some (s, by', zrow)) (hx : ev x = some (.slc id 0 n c)) (hB : get id = some B) (hBs : B.sz = s) (hy : ev y = some v) (hs : SrcA get (deS v) s m rows p ids)
    (hone : (rows.all fun row => row.all one) = true) (hm : 0 < m) (hroom : n + m ≤ c) (hr : n ≤ B.rows.length) (e1 : n + m = nm) (e2 : (B.pure && p) = q) :
    Good P Γ o ev get k ⟨.slc id 0 nm c, k, [(id, some ⟨B.sz, q, setRows B.rows rows n⟩)], id :: ids⟩ := by
  subst e1; subst e2
  exact appin_good ho hz hx hB hBs hy hs hone hm hroom hr
theorem clear_goodE {x : Operand} {t id r n c s by' : Nat} {zrow : List AVal} {B : Blk} {q : Bool}
    (ho : o.op = .call { callee := .builtin .clear, args := #[x], argTypes := #[t] }) (hz : ezero P t = some (s, by', zrow)) (hz1 : zrow.all one = true) (hx : ev x = some (.slc id r n c)) (hB : get id = some B) (hBs : B.sz = s) (hn0 : 0 < n) (hr : r + n ≤ B.rows.length) (e : (B.pure && true) = q) :
    Good P Γ o ev get k ⟨.junk, k, [(id, some ⟨B.sz, q, setRows B.rows (List.replicate n zrow) r⟩)], [id]⟩ := by
  subst e
  exact clear_good ho hz hz1 hx hB hBs hn0 hr
theorem look_one {id : Nat} {B : Blk} {H : Heap} : AM.look ((id, B) :: H) id = some B := by simp only [AM.look, ↓reduceIte]
end
end Go.AM
end
section
namespace Go.AM
open Go Go.RowKit
def GlobIs (w : World) (G : Nat → Prop) (g : Nat) (cells : List AVal) : Prop :=
  V w G noNames noAllow (.rp cells) (.pointer (some ⟨g, 0, none⟩)) ∧ G g ∧ ∃ C ty x, w.heap[g]? = some (.cells C ty x) ∧ C.size = cells.length
theorem GlobIs.cell {w : World} {G : Nat → Prop} {g : Nat} {cells : List AVal} (h : GlobIs w G g cells) {j : Nat} {v : Value} (hj : cells[j]? = some (.lit v)) : w.cell? ⟨g, j, none⟩ = some v := by
  obtain ⟨hv, _⟩ := h
  cases hv with
  | rp gg hG hc hV =>
    have h1 := hc j _ hj
    have h2 := hV j _ hj
    rw [Nat.zero_add] at h1
    rw [h1]; cases h2; rfl
end Go.AM
end
section
namespace Go.AM
open Go
section
variable {P : Program} {Γ : List (Nat × List AVal)}
theorem HRel.fz {w : World} {G : Nat → Prop} {ρ : Names} {H : Owner} {A : Allow} (hr : HRel Γ w G ρ H) : HRel Γ w (fun b => G b ∨ owned ρ b) noNames (ofHeap [] A) :=
  ⟨fun _ _ => rfl, fun id B A' hid => (by simp [ofHeap, look] at hid), fun i j b s t h => (by cases h), fun b hb => hb.elim (hr.ro b) (fun h => hr.owned_lt h), fun g cells hg => by
    obtain ⟨h1, h2, h3⟩ := hr.glob g cells hg
    exact ⟨h1.mono (fun _ h => .inl h) (fun _ _ => rfl) (fun _ _ => rfl) (fun _ h => h) (fun _ h => h.elim), .inl h2, h3⟩⟩
theorem Mv_le {kb k : Nat} {fr fr' : Fr} {H : Heap} (h : ∀ t v, look fr' t = some v → ∃ u, look fr t = some u ∧ VLe u v) : Mv kb k fr H k fr' H := fun hk => ⟨hk, fun Γ nt A0 w G ρ a hA hi =>
  ⟨G, ρ, ⟨hi.rel, hi.size, hi.defers, fun t v hv => by obtain ⟨u, hu, hle⟩ := h t v hv; exact hle _ _ _ _ _ (hi.frm t u hu)⟩, Step.refl _ _ _ _⟩⟩
end
end Go.AM
end
