import Derived.Test.YtkiadljldlppbaaGreatDoorZAI
set_option linter.unusedVariables false
set_option linter.unusedSimpArgs false
section
namespace Go.Proofs.T
open Go Go.AM Go.Proofs
set_option maxRecDepth 20000
variable {Γ : List (Nat × List AVal)}
theorem mput (t : Tk) (v r w : Int) (R : List (List AVal)) (id i : Nat) (hi : R[i]? = some (tkc t)) (hw : 0 ≤ w) (hw2 : w ≤ 4294967295) (k : Nat) (hk : id < k) :
    Tr Tryz.prog Γ 71 k [.ptr id i 0, enc v r w] [(id, ⟨8, true, R⟩)] (fun k1 r1 H1 => k1 = k ∧ r1 = .tup [] ∧ H1 = [(id, ⟨8, true, R.set i (tkc { t with v := v, r := r, weight := w })⟩)]) := by
  have e1 : IntKind.i64.wrap w = w := wrap_i64 (by omega) (by omega)
  refine Tr_at Tryz.func71 rfl 20 rfl (Nat.le_of_ble_eq_true rfl) (W_upM ?_)
  have hlt : i < R.length := (List.getElem?_eq_some_iff.1 hi).1
  have hset : ∀ x, (R.set i x)[i]? = some x := fun x => by simp [hlt]
  have kp : Kp [0,1,3] (fun i => if i = id then 0 else i - k + 1) := kpI
  have uU := zA @e1 (zA @hi (zA @hset (zA @ssN @enc.eq_1)))
  refine wlD ?_; refine zq1 ⟨⟨⟨?_⟩⟩⟩
  refine ⟨k, [], [(id, ⟨8, true, R.set i (tkc { t with v := v, r := r, weight := w })⟩)], ?_, _, rfl, rfl, rfl, rfl⟩
  refine rRD ?_; apply zN
  exact wkD
def SpOk (s : Sp) (w : Int) : Prop := ent s.v s.r w = true ∧ 0 ≤ s.v ∧ s.v ≤ 18446744073709551615 ∧ 0 ≤ s.r ∧ 0 ≤ s.floor ∧ s.floor ≤ 18446744073709551615
structure TkOk (L : LSt) (n : Nat) (t : Tk) : Prop where
  id1 : 1 ≤ t.id
  id2 : t.id ≤ 65535
  g0 : 0 ≤ t.group
  g1 : t.group < L.sl.length
  c0 : 0 ≤ t.cpu
  c1 : t.cpu < n
  e : ent t.v t.r t.weight = true
  v0 : 0 ≤ t.v
  v1 : t.v ≤ 18446744073709551615
  r0 : 0 ≤ t.r
  m0 : 0 ≤ t.mask
  m1 : t.mask < 18446744073709551616
  m2 : t.mask / 2 ^ n = 0
  m3 : t.mask / 2 ^ t.cpu.toNat % 2 = 1
structure Rt0 (L : LSt) (n : Nat) : Prop where
  n1 : 1 ≤ n
  n64 : n ≤ 64
  cpus : L.cpus = n
  cr0 : 0 ≤ L.credit
  cr : L.credit ≤ 1099511627776
  ng : L.gl.length = L.sl.length
  ns1 : 1 ≤ L.sl.length
  ns : L.sl.length ≤ 256
  nk : L.kl.length = n
  nu : L.ul.length = n
  rows : ∀ g, g < L.sl.length → (L.sl.getD g []).length = n
  nt : L.tl.length ≤ 1000
  par : ∀ g, 0 < g → g < L.sl.length → 0 ≤ L.par g ∧ L.par g < g
  par0 : L.par 0 = 0
  wt : ∀ g, g < L.sl.length → 1 ≤ L.wt g ∧ L.wt g ≤ 65536
  clk : ∀ c, c < n → 0 ≤ L.clk c ∧ L.clk c ≤ 281474976710656
  sp : ∀ g c, g < L.sl.length → c < n → SpOk (L.sp g c) (L.wt g)
  root : ∀ c, c < n → (L.sp 0 c).v = 0 ∧ (L.sp 0 c).r = 0
  tk : ∀ i, i < L.tl.length → TkOk L n (L.tsk i)
  sorted : Sorted L
  cur : ∀ c, c < n → L.cur c = 0 ∨ ∃ j, j < L.tl.length ∧ (L.tsk j).ready = true ∧ (L.tsk j).cpu = c ∧ (L.tsk j).id = L.cur c
theorem Rt0.shp {L : LSt} {n : Nat} (h : Rt0 L n) : Shp L n :=
  ⟨h.ng, h.rows, by have := h.nt; omega, by have := h.ns; omega, fun i hi => by have := h.tk i hi; exact ⟨by have := this.id1; omega, this.id2, this.v1⟩, fun g c hg hc => (h.sp g c hg hc).2.2.1⟩
def LSt.setT (L : LSt) (i : Nat) (t : Tk) : LSt := { L with tl := L.tl.set i t }
def LSt.setS (L : LSt) (g c : Nat) (s : Sp) : LSt := { L with sl := L.sl.set g ((L.sl.getD g []).set c s) }
theorem setT_tsk {L : LSt} {i j : Nat} {t : Tk} (hi : i < L.tl.length) : (L.setT i t).tsk j = if j = i then t else L.tsk j := by
  unfold LSt.setT LSt.tsk
  simp only [List.getD_eq_getElem?_getD, List.getElem?_set]
  by_cases h : j = i
  · subst h; simp [hi]
  · rw [if_neg (Ne.symm h), if_neg h]
theorem setT_len {L : LSt} {i : Nat} {t : Tk} : (L.setT i t).tl.length = L.tl.length := List.length_set
theorem setS_len {L : LSt} {g c : Nat} {s : Sp} : (L.setS g c s).sl.length = L.sl.length := List.length_set
theorem setS_row {L : LSt} {g c h : Nat} {s : Sp} (hg : g < L.sl.length) : (L.setS g c s).sl.getD h [] = if h = g then (L.sl.getD g []).set c s else L.sl.getD h [] := by
  unfold LSt.setS
  simp only [List.getD_eq_getElem?_getD, List.getElem?_set]
  by_cases e : h = g
  · subst e; simp [hg]
  · rw [if_neg (Ne.symm e), if_neg e]
theorem setS_rows {L : LSt} {g c h : Nat} {s : Sp} : ((L.setS g c s).sl.getD h []).length = (L.sl.getD h []).length := by
  by_cases hg : g < L.sl.length
  · rw [setS_row hg]
    split
    · subst h; simp
    · rfl
  · unfold LSt.setS
    rw [List.set_eq_of_length_le (by omega)]
theorem setS_sp {L : LSt} {g c h d : Nat} {s : Sp} (hg : g < L.sl.length) (hc : c < (L.sl.getD g []).length) : (L.setS g c s).sp h d = if h = g ∧ d = c then s else L.sp h d := by
  unfold LSt.sp
  rw [setS_row hg]
  by_cases e : h = g
  · subst e
    rw [if_pos rfl]
    simp only [List.getD_eq_getElem?_getD, List.getElem?_set] at *
    by_cases e2 : d = c
    · subst e2; simp [hc]
    · rw [if_neg (Ne.symm e2), if_neg (fun h => e2 h.2)]
  · rw [if_neg e, if_neg (fun h => e h.1)]
theorem fam_congr {s : Nat} : ∀ {n f : Nat} {R R' : Nat → List (List AVal)}, (∀ j, j < n → R j = R' j) → fam f s n R = fam f s n R'
  | 0, _, _, _, _ => rfl
  | n + 1, f, R, R', h => by rw [fam, fam, h 0 (by omega), fam_congr (n := n) (fun j hj => h (j + 1) (by omega))]
theorem setT_rows {L : LSt} {i : Nat} {t : Tk} : tlR (L.setT i t) = (tlR L).set i (tkc t) := by simp [tlR, LSt.setT, List.map_set]
theorem slR_set {L : LSt} {g c h : Nat} {s : Sp} (hg : g < L.sl.length) : slR (L.setS g c s) h = if h = g then (slR L g).set c (spc s) else slR L h := by
  unfold slR
  rw [setS_row hg]
  split
  · rw [List.map_set]
  · rfl
theorem MH_setT {m tk i : Nat} {L : LSt} {t : Tk} : MH m tk (L.setT i t) = (m, ⟨8, false, [mrow m tk L]⟩) :: (m + 1, ⟨2, true, glR L⟩) :: (m + 2, ⟨1, true, klR L⟩) :: (m + 3, ⟨1, true, ulR L⟩) :: (m + 5, ⟨1, false, ouR m L⟩) :: (tk, ⟨8, true, (tlR L).set i (tkc t)⟩) :: fam (m + 6) 3 L.sl.length (slR L) := by
  rw [MH, LH, setT_rows]
  have e : mrow m tk (L.setT i t) = mrow m tk L := by unfold mrow; rw [setT_len]; rfl
  rw [e]
  rfl
theorem ouR_set {m g c : Nat} {L : LSt} {s : Sp} : ouR m (L.setS g c s) = ouR m L := by
  unfold ouR
  rw [setS_len]
  refine List.map_congr_left fun h _ => ?_
  rw [ouF, ouF, setS_rows]
theorem MH_setS {m tk g c : Nat} {L : LSt} {s : Sp} (hg : g < L.sl.length) : MH m tk (L.setS g c s) = (m, ⟨8, false, [mrow m tk L]⟩) :: (m + 1, ⟨2, true, glR L⟩) :: (m + 2, ⟨1, true, klR L⟩) :: (m + 3, ⟨1, true, ulR L⟩) :: (m + 5, ⟨1, false, ouR m L⟩) :: (tk, ⟨8, true, tlR L⟩) :: fam (m + 6) 3 L.sl.length (fun j => if j = g then (slR L g).set c (spc s) else slR L j) := by
  rw [MH, LH, ouR_set]
  have e : mrow m tk (L.setS g c s) = mrow m tk L := by unfold mrow; rw [setS_len]; rfl
  rw [e, setS_len, fam_congr (fun j _ => slR_set hg)]
  rfl
end Go.Proofs.T
end
section
namespace Go.Proofs.T
open Go Go.AM Go.Proofs
set_option maxRecDepth 20000
variable {Γ : List (Nat × List AVal)}
theorem Rt0.setS {L : LSt} {n g c : Nat} {s : Sp} (h : Rt0 L n) (hg : g < L.sl.length) (hc : c < n) (hs : SpOk s (L.wt g)) (hroot : g = 0 → s.v = 0 ∧ s.r = 0) : Rt0 (L.setS g c s) n := by
  have hc' : c < (L.sl.getD g []).length := by rw [h.rows g hg]; exact hc
  have hl := @setS_len L g c s
  refine ⟨h.n1, h.n64, h.cpus, h.cr0, h.cr, by rw [hl]; exact h.ng, by rw [hl]; exact h.ns1, by rw [hl]; exact h.ns, h.nk, h.nu, fun j hj => by rw [setS_rows]; exact h.rows j (by omega), h.nt, fun j h1 h2 => h.par j h1 (by omega), h.par0, fun j hj => h.wt j (by omega), h.clk, fun j d hj hd => ?_, fun d hd => ?_, fun i hi => ?_, h.sorted, h.cur⟩
  · rw [setS_sp hg hc']
    split
    · rename_i e; rw [e.1]; exact hs
    · exact h.sp j d (by omega) hd
  · rw [setS_sp hg hc']
    split
    · rename_i e; exact hroot e.1.symm
    · exact h.root d hd
  · have t := h.tk i hi
    exact ⟨t.id1, t.id2, t.g0, by rw [hl]; exact t.g1, t.c0, t.c1, t.e, t.v0, t.v1, t.r0, t.m0, t.m1, t.m2, t.m3⟩
theorem lessZ_bd {a b : Int} (h1 : 0 ≤ a) (h2 : a ≤ 18446744073709551615) (h3 : 0 ≤ b) : 0 ≤ lessZ a b ∧ lessZ a b ≤ 18446744073709551615 := by unfold lessZ; split <;> omega
theorem woken_ok {s : Sp} {w f c : Int} (h : SpOk s w) (hf : 0 ≤ f) (hf2 : f ≤ 18446744073709551615) (hc : 0 ≤ c) : SpOk { s with v := (wokenZ s.v s.r f c).1, r := (wokenZ s.v s.r f c).2 } w := by
  obtain ⟨h1, h2, h3, h4, h5, h6⟩ := h
  have := lessZ_bd hf hf2 hc
  simp only [ent, decide_eq_true_eq] at h1
  unfold wokenZ SpOk
  simp only [ent, decide_eq_true_eq]
  split <;> (refine ⟨?_, ?_, ?_, ?_, h5, h6⟩ <;> omega)
def woken1 (L : LSt) (c g : Nat) : LSt := L.setS g c { L.sp g c with v := (wokenZ (L.sp g c).v (L.sp g c).r (L.sp (L.par g).toNat c).floor L.credit).1, r := (wokenZ (L.sp g c).v (L.sp g c).r (L.sp (L.par g).toNat c).floor L.credit).2 }
theorem Rt0.woken1 {L : LSt} {n g c : Nat} (h : Rt0 L n) (h0 : 0 < g) (hg : g < L.sl.length) (hc : c < n) : Rt0 (woken1 L c g) n := by
  have hp := h.par g h0 hg
  have hs := h.sp (L.par g).toNat c (by omega) hc
  exact h.setS hg hc (woken_ok (h.sp g c hg hc) hs.2.2.2.2.1 hs.2.2.2.2.2 h.cr0) (fun e => by omega)
def wkN (L : LSt) (c : Nat) (l : List Nat) : Nat → LSt
  | 0 => L
  | j + 1 => woken1 (wkN L c l j) c (l.getD j 0)
def wakeL (L : LSt) (c : Nat) (l : List Nat) : LSt := wkN L c l l.length
theorem wkN_ok {L : LSt} {n c : Nat} {l : List Nat} (h : Rt0 L n) (hc : c < n) (hl : ∀ g, g ∈ l → 0 < g ∧ g < L.sl.length) : ∀ {j : Nat}, j ≤ l.length → Rt0 (wkN L c l j) n ∧ (wkN L c l j).sl.length = L.sl.length
  | 0, _ => ⟨h, rfl⟩
  | j + 1, hj => by
    obtain ⟨h1, h2⟩ := wkN_ok h hc hl (j := j) (by omega)
    have := hl (l.getD j 0) (by simp only [List.getD_eq_getElem?_getD]; rw [List.getElem?_eq_getElem (by omega)]; exact List.getElem_mem _)
    exact ⟨h1.woken1 this.1 (by omega) hc, by rw [wkN, woken1, setS_len, h2]⟩
def gR (l : List Nat) : List (List AVal) := l.map fun (g : Nat) => [.lit (.int .i64 (g : Int))]
theorem gR_len (l : List Nat) : (gR l).length = l.length := List.length_map _
theorem gR_get {l : List Nat} {j : Nat} (h : j < l.length) : (gR l)[j]? = some [.lit (.int .i64 ((l.getD j 0 : Nat) : Int))] := by simp [gR, h, List.getD]
attribute [go_sem] gR_len
theorem bdH_cons1 {p : Nat → Bool} {e s : Nat} {R : List (List AVal)} {H : Heap} (h : p e = true) (h2 : bdH p H = true) : bdH p ((e, ⟨s, true, R⟩) :: H) = true := by
  simp only [bdH, List.all_cons, h, Bool.true_or, Bool.and_true, Bool.true_and] at h2 ⊢
  exact h2
set_option maxHeartbeats 8000000 in
theorem wake1 (L : LSt) (n c : Nat) (hS : Rt0 L n) (hc : c < n) (l : List Nat) (hl : ∀ g, g ∈ l → 0 < g ∧ g < L.sl.length) (hl2 : l.length ≤ 1000) (m tk e k : Nat) (hm : m + 6 + L.sl.length ≤ tk) (he : tk < e) (hk : e < k) :
    Tr Tryz.prog Γ 75 k [.ptr m 0 0, .sl e 0 l.length, .lit (.int .i64 (c : Int))] ((e, ⟨1, true, gR l⟩) :: MH m tk L) (fun k1 r1 H1 => k1 = k ∧ r1 = .tup [] ∧ H1 = (e, ⟨1, true, gR l⟩) :: MH m tk (wakeL L c l)) := by
  have hWk : Rt0 (wakeL L c l) n ∧ (wakeL L c l).sl.length = L.sl.length := wkN_ok hS hc hl (Nat.le_refl _)
  have hWk2 := hWk.2
  obtain ⟨RH, eRH⟩ : ∃ x : Heap, x = (e, ⟨1, true, gR l⟩) :: MH m tk (wakeL L c l) := ⟨_, rfl⟩
  obtain ⟨F, hF⟩ : ∃ F : Nat → Heap, ∀ j, F j = (e, ⟨1, true, gR l⟩) :: MH m tk (wkN L c l j) := ⟨_, fun _ => rfl⟩
  refine Tr.mono (Tr_in (kk := k) (V := .tup []) (RH := RH) (by omega) rfl (by rw [eRH]; exact bdH_cons1 (by simp only [ltB, decide_eq_true_eq]; omega) (MH_lt (by omega) (by omega))) ?_) (fun _ _ _ h => ⟨h.1, h.2.1, h.2.2.trans eRH⟩)
  refine Tr_at Tryz.func75 rfl 82 rfl (Nat.le_of_ble_eq_true rfl) ?_
  simp only [MH, LH]
  have kp : Kp [0,1,2,7,8,9,10,12,13,14,15] (fun i => i - k) := kpI
  refine wlD ?_; refine zq1 ⟨⟨⟨?_⟩⟩⟩
  refine M_forO (X := Nat) rfl [0,1,2,7,8,9,10,12,13,14,15] k (fun j => [(14, .lit (.int .i64 (j : Int)))]) (fun j => F j) (fun j => j ≤ l.length) (fun j => l.length - j) 0 ?_ (Nat.zero_le _) ?_
  · rw [hF, wkN]
    simp only [MH, LH]
    refine rRD ?_; apply zN
    exact wkD
  intro j hj
  obtain ⟨hM, hMl⟩ := wkN_ok hS hc hl hj
  have hsucc : wkN L c l (j + 1) = woken1 (wkN L c l j) c (l.getD j 0) := rfl
  have hlast : j = l.length → wakeL L c l = wkN L c l j := fun e => by rw [e]; rfl
  have hget : j < l.length → (gR l)[j]? = some [.lit (.int .i64 ((l.getD j 0 : Nat) : Int))] := gR_get
  have hg : j < l.length → 0 < l.getD j 0 ∧ l.getD j 0 < L.sl.length := fun h => hl _ (by simp only [List.getD_eq_getElem?_getD]; rw [List.getElem?_eq_getElem h]; exact List.getElem_mem _)
  obtain ⟨M, eM⟩ : ∃ M, M = wkN L c l j := ⟨_, rfl⟩
  rw [hF j, ← eM]
  rw [← eM] at hM hMl hsucc hlast
  obtain ⟨g, eg⟩ : ∃ g, g = l.getD j 0 := ⟨_, rfl⟩
  rw [← eg] at hget hsucc hg
  simp only [MH, LH]
  refine rRD ?_; apply zN
  by_cases hj2 : j < l.length
  · have hget := hget hj2
    obtain ⟨hg0, hg1⟩ := hg hj2
    have hng := hM.ng
    have hrow := hM.rows g (by omega)
    obtain ⟨hp0, hp1⟩ := hM.par g hg0 (by omega)
    obtain ⟨p, hp⟩ : ∃ p : Nat, M.par g = (p : Int) := ⟨(M.par g).toNat, by omega⟩
    have hrow2 := hM.rows p (by omega)
    have hw := hM.wt g (by omega)
    have hs1 := hM.sp g c (by omega) hc
    have hs2 := hM.sp p c (by omega) hc
    have kp : Kp [0,1,2,7,8,9,10,12,13,14,15] (fun i => if k ≤ i then i - k + 1 else 0) := kpI
    have uU := zA @hget (zA @hrow (zA @hrow2 @hp))
    refine wlD ?_; refine zq1 ⟨fun ht => ⟨⟨?_⟩⟩⟩
    obtain ⟨z, ez⟩ : ∃ z, z = wokenZ (M.sp g c).v (M.sp g c).r (M.sp p c).floor M.credit := ⟨_, rfl⟩
    refine dlD [.ret (enc (M.sp g c).v (M.sp g c).r (M.wt g)), .ret (.tup [enc z.1 z.2 (M.wt g), .lit (.int .i64 0)])] ?_; refine zq3 ⟨⟨⟨?_⟩⟩⟩ ⟨⟨⟨?_⟩⟩⟩ ⟨⟨⟨?_⟩⟩⟩
    · exact mentity _ _ _ (by omega) (by omega)
    · rw [ez]
      exact pwoken _ _ _ _ _ hs1.1 hs2.2.2.2.2.1 hs2.2.2.2.2.2 hM.cr0
    have hsetS : ∀ x, ((slR M g).set c x)[c]? = some x := fun x => List.getElem?_set_self (by rw [slR_len, hrow]; exact hc)
    have uU := zA @hget (zA @hrow (zA @hrow2 (zA @hp (zA @hsetS @ssN))))
    refine wlD ?_; refine zq1 ⟨⟨⟨?_⟩⟩⟩
    refine ⟨j + 1, by omega, by omega, ?_⟩
    rw [hF, hsucc, woken1, MH_setS (by omega), hp, Int.toNat_natCast, ← ez]
    refine rRD ?_; apply zN
    exact wkD
  · have hj3 : j = l.length := by omega
    rw [hlast hj3] at eRH
    have kp : Kp [0,1,2,7,8,9,10,12,13,14,15] (fun i => if k ≤ i then i - k + 1 else 0) := kpI
    refine wlD ?_; refine zq1 ⟨fun ht => ⟨⟨?_⟩⟩⟩
    refine ⟨_, rfl, rfl, ?_⟩
    rw [eRH]
    simp only [MH, LH]
    exact rRD hdT
end Go.Proofs.T
end
section
namespace Go.AM
open Go
def shC (f : Foot) : Bool × Bool := (f.rds.isEmpty, f.mods.isEmpty)
def unC (b : Bool × Bool) : List Nat × List Nat := (if b.1 = true then [] else [0], if b.2 = true then [] else [0])
theorem unC_sub {l : List Nat} : ∀ x, x ∈ l.map (fun _ => 0) → x ∈ (if l.isEmpty = true then [] else [0]) := fun x hx => by
  cases l with
  | nil => simp at hx
  | cons a r =>
    simp only [List.map_cons, List.mem_cons, List.mem_map] at hx
    simp only [List.isEmpty_cons, Bool.false_eq_true, if_false, List.mem_singleton]
    rcases hx with h | ⟨_, _, h⟩
    · exact h
    · exact h.symm
theorem clash_C {ops : Array Oper} {oj oi : Oper} {fj fi : Foot} (h : clashN ops oj (unC (shC fj)) oi (unC (shC fi)) = false) : clash ops oj fj oi fi = false := by
  refine clash_N (g := fun _ => 0) ?_
  simp only [clashN, Bool.or_eq_false_iff, unC, shC] at h
  simp only [clashN, Bool.or_eq_false_iff, shG]
  obtain ⟨⟨⟨⟨⟨h1, h2⟩, h3⟩, h4⟩, h5⟩, h6⟩ := h
  exact ⟨⟨⟨⟨⟨h1, h2⟩, h3⟩, meets_sub unC_sub unC_sub h4⟩, meets_sub unC_sub unC_sub h5⟩, meets_sub unC_sub unC_sub h6⟩
theorem drawC {ops : Array Oper} {tr : List Foot} {L : List (Bool × Bool)} (hL : tr.map shC = L) (h : drawN ops (L.map unC) = true) (hm : (tr.all fun f => f.mods.all fun x => decide (x < f.k')) = true) : drawOk ops tr = true := by
  subst hL
  simp only [drawN, List.all_eq_true] at h
  simp only [drawOk, List.all_eq_true]
  intro i hi
  have h1 := h i hi
  rw [List.getElem?_map, List.getElem?_map] at h1
  cases ho : ops[i]? with
  | none => rw [ho] at h1; simp at h1
  | some oi =>
    cases ht : tr[i]? with
    | none => rw [ho, ht] at h1; simp at h1
    | some fi =>
      rw [ho, ht] at h1
      simp only [Option.map_some, Bool.and_eq_true, List.all_eq_true] at h1
      simp only [Bool.and_eq_true, List.all_eq_true]
      refine ⟨⟨h1.1, ?_⟩, fun j hj => ?_⟩
      · have := List.all_eq_true.1 hm fi (List.mem_of_getElem? ht)
        exact fun x hx => List.all_eq_true.1 this x hx
      · have h2 := h1.2 j hj
        rw [List.getElem?_map, List.getElem?_map] at h2
        cases hoj : ops[j]? with
        | none => rw [hoj] at h2; simp at h2
        | some oj =>
          cases htj : tr[j]? with
          | none => rw [hoj, htj] at h2; simp at h2
          | some fj =>
            rw [hoj, htj] at h2
            simp only [Option.map_some, Bool.or_eq_true, Bool.not_eq_true'] at h2 ⊢
            exact h2.imp clash_C id
end Go.AM
end
section
namespace Go.AM
open Go
section
variable {P : Program} {Γ : List (Nat × List AVal)} {o : Oper} {ev : Operand → Option AVal} {get : Nat → Option Blk} {k : Nat}
theorem src_cells2 {w : World} {G : Nat → Prop} {ρ : Names} {A : Allow} {s m : Nat} {rows : List (List AVal)} {p : Bool} (hs : 0 < s) {cnt : Nat} (hcnt : cnt ≤ m) {b off : Nat} {gv : Nat → Nat → Value} (hl : rows.length = m) (hrl : ∀ (r : Nat) row, rows[r]? = some row → row.length = s)
    (hgv : ∀ r row c v, rows[r]? = some row → row[c]? = some v → w.cell? ⟨b, off + r * s + c, none⟩ = some (gv r c) ∧ V w G (if p then noNames else ρ) (if p then noAllow else A) v (gv r c)) (hone : rowsOne (rows.take cnt)) :
    (∀ j u, (news s cnt gv)[j]? = some u → w.cell? ((⟨b, off, none⟩ : Addr).add j) = some u) ∧ (∀ u ∈ news s cnt gv, u.oneCell' = true) := by
  refine ⟨fun j u hj => ?_, fun u hu => ?_⟩
  · obtain ⟨h1, h2, rfl⟩ := news_inv hj hs
    obtain ⟨row, v, h3, h4⟩ := row_get hrl (by omega : j / s < rows.length) h2
    have h5 := (hgv _ row _ v h3 h4).1
    rw [Addr.add_mid, ← h5]
    have : off + j = off + j / s * s + j % s := by have := Nat.div_add_mod j s; rw [Nat.mul_comm] at this; omega
    rw [this]
  · obtain ⟨j, hj⟩ := List.getElem?_of_mem hu
    obtain ⟨h1, h2, rfl⟩ := news_inv hj hs
    obtain ⟨row, v, h3, h4⟩ := row_get hrl (by omega : j / s < rows.length) h2
    exact one_V (hgv _ row _ v h3 h4).2 (hone (j / s) row _ v (by rw [List.getElem?_take]; rw [if_pos h1]; exact h3) h4)
theorem copy_goodE {x y : Operand} {t id r n m s by' : Nat} {zrow : List AVal} {B : Blk} {v : AVal} {rows : List (List AVal)} {p : Bool} {ids : List Nat} (cnt : Nat)
    (ho : o.op = .call { callee := .builtin .copy, args := #[x, y], argTypes := #[t, t] }) (hz : ezero P t = some (s, by', zrow)) (hx : ev x = some (.sl id r n)) (hB : get id = some B) (hBs : B.sz = s) (hy : ev y = some v) (hs : SrcA get (deS v) s m rows p ids)
    (hone : ((rows.take cnt).all fun row => row.all one) = true) (hcnt : cnt = Nat.min m n) (hc0 : 0 < cnt) (hr : r + n ≤ B.rows.length) {q : Bool} {X : List (List AVal)} (e1 : (B.pure && p) = q) (e2 : setRows B.rows (rows.take cnt) r = X) :
    Good P Γ o ev get k ⟨.lit (.int .i64 cnt), k, [(id, some ⟨B.sz, q, X⟩)], id :: ids⟩ := by
  subst e1; subst e2
  have hcm : cnt ≤ m ∧ cnt ≤ n := by rw [hcnt]; exact ⟨Nat.min_le_left _ _, Nat.min_le_right _ _⟩
  refine ⟨?_, rds_cons hB hs.some, Nat.le_refl _⟩
  · intro w G ρ H A a hrl hA hf hrd hop next Q hn
    unfold ezero at hz
    split at hz
    case h_2 => cases hz
    rename_i e hu
    split at hz
    case h_2 => cases hz
    rename_i i hi
    split at hz
    case h_2 => cases hz
    rename_i z hzz
    split at hz
    case isFalse => cases hz
    rename_i hsz
    cases hz
    obtain ⟨B', A', h3, hH, hAA⟩ := hrd id (by simp)
    rw [hB] at h3; cases h3
    obtain ⟨_, b, hb, _, ⟨⟨C, ty, hC, hrows⟩, hlen⟩⟩ := hrl.blk id B A' hH
    have hvx := hop x (by simp [ho, Op.operands, Call.operands]) _ hx
    have hvy := deS_V (hop y (by simp [ho, Op.operands, Call.operands]) _ hy)
    obtain ⟨hsl, hsrl, hsex⟩ := hs.src hrl (fun id' hid => hrd id' (List.mem_cons_of_mem _ hid)) hvy
    obtain ⟨sb, soff, scap, hsv, gv, hgv⟩ := hsex (by omega)
    obtain ⟨hcell, h1⟩ := src_cells2 (cnt := cnt) hsz.2 hcm.1 hsl hsrl hgv (one_row_one hone)
    generalize hev : a.eval x = cvx at hvx
    cases hvx with
    | dangs _ hn' => rw [hb] at hn'; cases hn'
    | sl0 => omega
    | sl h4 h5 h6 h7 h8 h9 h10 =>
      rw [hb] at h5; cases h5
      rename_i dcap doff
      have e := h6
      unfold World.shape? at e
      rw [hC] at e
      simp at e
      obtain ⟨rfl, rfl⟩ := e
      have hoff := h10.resolve_left (by omega)
      subst hoff
      have hfit0 := rows_fit hrows hlen
      have hfit : (r + cnt) * B.sz ≤ C.size := Nat.le_trans (Nat.mul_le_mul_right _ (by omega)) hfit0
      have hnl := news_len i.size cnt gv
      have hrun := run_copy_rows (P := P) w t t o.type e b (r * B.sz) n dcap ⟨sb, soff, none⟩ m scap C ty (news i.size cnt gv) i cnt hu hi hC hcnt hnl hcell (by rw [hnl, hBs, ← Nat.add_mul, ← hBs]; exact hfit) h1
      have hrun' : (execOp a.eval o).run P w = .ok (.value (goInt cnt)) (w.setRow b (C.toList.take (r * B.sz) ++ news i.size cnt gv ++ C.toList.drop (r * B.sz + (news i.size cnt gv).length)).toArray) := by
        simp only [execOp, ho, resolve, invoke, builtin]
        simp only [List.map_toArray, List.map_cons, List.map_nil, Sem.run_bind, Sem.run_pure, Result.andThen_ok, hev, hsv, hrun]
      unfold Oper.wp
      rw [hrun']
      rw [← hBs] at hrun' ⊢
      have hw := write_rel (k := k) hrl h4 hAA hb hC hrows hlen r cnt (rows.take cnt) p gv (by simp; omega) (fun q row h => by rw [hBs]; exact hsrl q row (take_get h).2)
        (fun q row c v h h' => (hgv q row c v (take_get h).2 h').2) (by omega) hfit
      exact hn _ G ρ (goInt cnt) hw.1 .lit hw.2
theorem slc_growE {t id r n c e r' n' c' : Nat} {x : Operand} {lo hi : Option Operand} {B : Blk} {l h : Int} (ho : o.op = .slice t x lo hi none) (hB : get id = some B) (ht : esz P t = some B.sz) (hx : ev x = some (.slc id r n c))
    (hl : bound ev lo 0 = some l) (hh : bound ev hi n = some h) (h0 : 0 ≤ l) (h1 : l ≤ h) (h2 : h ≤ c) (he : B.rows.length + e ≤ r + c) (e1 : r + l.toNat = r') (e2 : h.toNat - l.toNat = n') (e3 : c - l.toNat = c') {X : List (List AVal)} (e4 : B.rows ++ List.replicate e (List.replicate B.sz .junk) = X) :
    Good P Γ o ev get k ⟨.slc id r' n' c', k, [(id, some ⟨B.sz, B.pure, X⟩)], [id]⟩ := by
  subst e1; subst e2; subst e3; subst e4
  exact slc_grow ho hB ht hx hl hh h0 h1 h2 he
theorem appz_goodE {x y : Operand} {t tn id r n c m s by' : Nat} {kn kq : IntKind} {zrow : List AVal} {B : Blk}
    (ho : o.op = .call { callee := .builtin .append, args := #[x, y], argTypes := #[t, tn] }) (hz : ezero P t = some (s, by', zrow)) (htn : P.underlying tn = some (.int kn)) (hx : ev x = some (.slc id r n c)) (hB : get id = some B) (hBs : B.sz = s)
    (hy : ev y = some (.lit (.int kq (m : Int)))) (hm : 0 < m) (hroom : c < n + m) (hby : (n + m) * by' ≤ 140737488355328) (hlen0 : n + m ≤ 9223372036854775807) (hr : r + n ≤ B.rows.length) {q : Bool} {nm : Nat} {X : List (List AVal)} (e1 : (B.pure && true) = q) (e2 : n + m = nm) (e3 : (B.rows.drop r).take n ++ List.replicate m zrow = X) :
    Good P Γ o ev get k ⟨.sl k 0 nm, k + 1, [(k, some ⟨s, q, X⟩)], [id]⟩ := by
  subst e1; subst e2; subst e3
  exact appz_good ho hz htn hx hB hBs hy hm hroom hby hlen0 hr
theorem setRows_get? {rows new : List (List AVal)} {r : Nat} (hr : r ≤ rows.length) (q : Nat) : (setRows rows new r)[q]? = if q < r then rows[q]? else if q < r + new.length then new[q - r]? else rows[q]? := by
  unfold setRows
  rw [List.append_assoc, List.getElem?_append, List.length_take, Nat.min_eq_left hr]
  by_cases h1 : q < r
  · rw [if_pos h1, if_pos h1, List.getElem?_take, if_pos h1]
  · rw [if_neg h1, if_neg h1, List.getElem?_append]
    by_cases h2 : q < r + new.length
    · rw [if_pos h2, if_pos (by omega)]
    · rw [if_neg h2, if_neg (by omega), List.getElem?_drop]
      congr 1; omega
def insR {α : Type} (R : List α) (i : Nat) (row : α) : List α := R.take i ++ row :: R.drop i
theorem insR_get? {α : Type} {R : List α} {i : Nat} {row : α} (h : i ≤ R.length) (q : Nat) : (insR R i row)[q]? = if q < i then R[q]? else if q = i then some row else R[q - 1]? := by
  unfold insR
  rw [List.getElem?_append, List.length_take, Nat.min_eq_left h]
  by_cases h1 : q < i
  · rw [if_pos h1, if_pos h1, List.getElem?_take, if_pos h1]
  · rw [if_neg h1, if_neg h1]
    by_cases h2 : q = i
    · subst h2; simp
    · rw [if_neg h2, List.getElem?_cons, if_neg (by omega), List.getElem?_drop]
      congr 1; omega
theorem insR_len {α : Type} {R : List α} {i : Nat} {row : α} (h : i ≤ R.length) : (insR R i row).length = R.length + 1 := by unfold insR; simp; omega
end
end Go.AM
end
section
namespace Go.AM
open Go
section
variable {P : Program} {Γ : List (Nat × List AVal)} {o : Oper} {ev : Operand → Option AVal} {get : Nat → Option Blk} {k : Nat}
theorem slcNil_good {t ty e id r n c : Nat} {x y : Operand} {B : Blk} (ho : o.op = .binOp .eql t x y ty) (he : P.underlying t = some (.slice e)) (hx : ev x = some (.slc id r n c)) (hB : get id = some B) (hy : ev y = some (.lit (.slice none 0 0))) :
    Good P Γ o ev get k ⟨.lit (.bool false), k, [], [id]⟩ := by
  refine ⟨OpOk_quiet fun w G ρ H A a hr hrd hop => ⟨.bool false, ?_, .lit⟩, fun id' hid => by simp at hid; rw [hid, hB]; rfl, Nat.le_refl _⟩
  obtain ⟨B', A', h3, hH, _⟩ := hrd id (by simp)
  rw [hB] at h3; cases h3
  have hvx := hop x (by simp [ho, Op.operands]) _ hx
  have hvy := V_bool (hop y (by simp [ho, Op.operands]) _ hy)
  obtain ⟨b, off, C, ty', hev, _⟩ := slc_spec hr hH hvx
  obtain ⟨h1, _, h2, _⟩ := nilEq_sl (P := P) he ⟨b, off, none⟩ n c 0 0 w
  simp [execOp, ho, hev, hvy, h1, h2]
end
theorem Mv_tmp {kb k : Nat} {fr : Fr} {H : Heap} (t : Nat) {u v : AVal} (hf : look fr t = some u) (hv : VLe u v) : Mv kb k fr H k ((t, v) :: del fr t) H := Mv_le fun t' z hz => by
  simp only [look] at hz
  split at hz
  · rename_i e; subst e; cases hz; exact ⟨u, hf, hv⟩
  · rw [look_del] at hz
    split at hz
    · cases hz
    · exact ⟨z, hz, VLe.refl _⟩
end Go.AM
end
