import Derived.Test.YtkiadljldlppbaaGreatDoorZAK
set_option linter.unusedVariables false
set_option linter.unusedSimpArgs false
section
namespace Go.Proofs.T
open Go Go.AM Go.Proofs
set_option maxRecDepth 20000
variable {Γ : List (Nat × List AVal)}
theorem Rt0.setT {L : LSt} {n i : Nat} {t : Tk} (h : Rt0 L n) (hi : i < L.tl.length) (ht : TkOk L n t) (hid : t.id = (L.tsk i).id) (hcur : ∀ c, c < n → L.cur c = t.id → (L.tsk i).ready = true → (L.tsk i).cpu = c → t.ready = true ∧ t.cpu = c) : Rt0 (L.setT i t) n := by
  refine ⟨h.n1, h.n64, h.cpus, h.cr0, h.cr, h.ng, h.ns1, h.ns, h.nk, h.nu, h.rows, by rw [setT_len]; exact h.nt, h.par, h.par0, h.wt, h.clk, h.sp, h.root, fun j hj => ?_, fun a b hab hb => ?_, fun c hc => ?_⟩
  · rw [setT_len] at hj
    rw [setT_tsk hi]
    have key : ∀ x, TkOk L n x → TkOk (L.setT i t) n x := fun x q => ⟨q.id1, q.id2, q.g0, q.g1, q.c0, q.c1, q.e, q.v0, q.v1, q.r0, q.m0, q.m1, q.m2, q.m3⟩
    split
    · exact key _ ht
    · exact key _ (h.tk j hj)
  · rw [setT_len] at hb
    have key : ∀ j, j < L.tl.length → ((L.setT i t).tsk j).id = (L.tsk j).id := fun j hj => by
      rw [setT_tsk hi]
      split
      · rename_i e; rw [e, hid]
      · rfl
    rw [key a (by omega), key b hb]
    exact h.sorted a b hab hb
  · rcases h.cur c hc with h1 | ⟨j, h1, h2, h3, h4⟩
    · exact .inl h1
    · refine .inr ⟨j, by rw [setT_len]; exact h1, ?_⟩
      rw [setT_tsk hi]
      by_cases e : j = i
      · subst e
        rw [if_pos rfl]
        have := hcur c hc (by rw [← h4, hid]) h2 h3
        exact ⟨this.1, this.2, by rw [hid]; exact h4⟩
      · rw [if_neg e]
        exact ⟨h2, h3, h4⟩
theorem Fwd.setT {L : LSt} {i : Nat} {t : Tk} : Fwd L (L.setT i t) := ⟨rfl, rfl, rfl, fun _ => rfl, fun _ => Int.le_refl _, fun _ _ => Int.le_refl _, by rw [setT_len]; omega, rfl⟩
def Tk.run (t : Tk) (v r w : Int) : Tk := { t with v := v, r := r, weight := w }
theorem find_cases {L : LSt} {n : Nat} (h : Rt0 L n) (d : Int) : (FindIs L d (-1)) ∨ ∃ i : Nat, i < L.tl.length ∧ (L.tsk i).id = d ∧ FindIs L d (i : Int) := by
  obtain ⟨r, hr⟩ := find_ex L d
  rcases id hr with ⟨h1, h2⟩ | ⟨i, h1, h2, h3⟩
  · exact .inl (.inl ⟨rfl, h2⟩)
  · exact .inr ⟨i, h1, h3, .inr ⟨i, h1, rfl, h3⟩⟩
set_option maxHeartbeats 8000000 in
theorem reweight (L : LSt) (n : Nat) (hS : Rt0 L n) (o : Opn) (m tk k : Nat) (hm : m + 6 + L.sl.length ≤ tk) (hk : tk < k) : OpOk Γ 36 L n o m tk k := by
  have hnt := hS.nt
  by_cases h1 : 1 ≤ o.task ∧ o.task ≤ 65535
  rotate_left
  · refine ⟨L, 0, 301, tk, k, hS, ⟨Fwd.refl L, .inr rfl⟩, hm, ⟨hk, .inl rfl⟩, Nat.le_refl _, ?_⟩
    obtain ⟨RH, eRH⟩ : ∃ x : Heap, x = MH m tk L := ⟨_, rfl⟩; obtain ⟨RV, eRV⟩ : ∃ x : AVal, x = res2 0 301 := ⟨_, rfl⟩; refine Tr.mono (Tr_in (k := k) (V := RV) (RH := RH) (by omega) (by rw [eRV]; rfl) (by rw [eRH]; exact MH_lt (by omega) (by omega)) ?_) (fun _ _ _ h => ⟨h.1, h.2.1.trans eRV, h.2.2.trans eRH⟩)
    refine Tr_at Tryz.func36 rfl 55 rfl (Nat.le_of_ble_eq_true rfl) ?_
    simp only [MH, LH]
    have kp : Kp [0,1,3,4,5,6,7,8,10,15,25] (fun i => i - k) := kpI
    refine wlL ?_; refine zq1 ⟨⟨⟨?_⟩⟩⟩
    refine clL [.ret (.lit (.bool false))] ?_; refine zq2 ⟨⟨⟨?_⟩⟩⟩ ⟨⟨⟨?_⟩⟩⟩
    · have := mtask o.task (Γ := Γ)
      rw [decide_eq_false h1] at this
      exact this
    refine wlL ?_; refine zq1 ⟨fun ht => ⟨⟨?_⟩⟩⟩
    have uU := Go.AM.uU; refine cRD ?_; apply zN
    refine ⟨?_, ?_⟩
    · rw [eRV]; rfl
    · rw [eRH]
      simp only [MH, LH]
      exact rRL hdT
  by_cases h2 : 1 ≤ o.weight ∧ o.weight ≤ 65536
  rotate_left
  · refine ⟨L, 0, 2, tk, k, hS, ⟨Fwd.refl L, .inr rfl⟩, hm, ⟨hk, .inl rfl⟩, Nat.le_refl _, ?_⟩
    obtain ⟨RH, eRH⟩ : ∃ x : Heap, x = MH m tk L := ⟨_, rfl⟩; obtain ⟨RV, eRV⟩ : ∃ x : AVal, x = res2 0 2 := ⟨_, rfl⟩; refine Tr.mono (Tr_in (k := k) (V := RV) (RH := RH) (by omega) (by rw [eRV]; rfl) (by rw [eRH]; exact MH_lt (by omega) (by omega)) ?_) (fun _ _ _ h => ⟨h.1, h.2.1.trans eRV, h.2.2.trans eRH⟩)
    refine Tr_at Tryz.func36 rfl 55 rfl (Nat.le_of_ble_eq_true rfl) ?_
    simp only [MH, LH]
    have kp : Kp [0,1,3,4,5,6,7,8,10,15,25] (fun i => i - k) := kpI
    refine wlL ?_; refine zq1 ⟨⟨⟨?_⟩⟩⟩
    refine clL [.ret (.lit (.bool true))] ?_; refine zq2 ⟨⟨⟨?_⟩⟩⟩ ⟨⟨⟨?_⟩⟩⟩
    · have := mtask o.task (Γ := Γ)
      rw [decide_eq_true h1] at this
      exact this
    refine wlL ?_; refine zq1 ⟨fun ht => ⟨⟨?_⟩⟩⟩
    refine clL [.ret (.lit (.bool false))] ?_; refine zq2 ⟨⟨⟨?_⟩⟩⟩ ⟨⟨⟨?_⟩⟩⟩
    · have := mweighs o.weight (Γ := Γ)
      rw [decide_eq_false h2] at this
      exact this
    refine wlL ?_; refine zq1 ⟨fun ht => ⟨⟨?_⟩⟩⟩
    have uU := Go.AM.uU; refine cRD ?_; apply zN
    refine ⟨?_, ?_⟩
    · rw [eRV]; rfl
    · rw [eRH]
      simp only [MH, LH]
      exact rRL hdT
  have hf : ∀ r, FindIs L o.task r → _ := fun r hr => find L o.task r hr hS.sorted (by omega) m tk (k + 1) hm (by omega) (Γ := Γ)
  rcases find_cases hS o.task with hr | ⟨i, hi, hid, hr⟩
  · refine ⟨L, 0, 6, tk, k, hS, ⟨Fwd.refl L, .inr rfl⟩, hm, ⟨hk, .inl rfl⟩, Nat.le_refl _, ?_⟩
    obtain ⟨RH, eRH⟩ : ∃ x : Heap, x = MH m tk L := ⟨_, rfl⟩; obtain ⟨RV, eRV⟩ : ∃ x : AVal, x = res2 0 6 := ⟨_, rfl⟩; refine Tr.mono (Tr_in (k := k) (V := RV) (RH := RH) (by omega) (by rw [eRV]; rfl) (by rw [eRH]; exact MH_lt (by omega) (by omega)) ?_) (fun _ _ _ h => ⟨h.1, h.2.1.trans eRV, h.2.2.trans eRH⟩)
    refine Tr_at Tryz.func36 rfl 55 rfl (Nat.le_of_ble_eq_true rfl) ?_
    simp only [MH, LH]
    have kp : Kp [0,1,3,4,5,6,7,8,10,15,25] (fun i => i - k) := kpI
    refine wlL ?_; refine zq1 ⟨⟨⟨?_⟩⟩⟩
    refine clL [.ret (.lit (.bool true))] ?_; refine zq2 ⟨⟨⟨?_⟩⟩⟩ ⟨⟨⟨?_⟩⟩⟩
    · have := mtask o.task (Γ := Γ)
      rw [decide_eq_true h1] at this
      exact this
    refine wlL ?_; refine zq1 ⟨fun ht => ⟨⟨?_⟩⟩⟩
    refine clL [.ret (.lit (.bool true))] ?_; refine zq2 ⟨⟨⟨?_⟩⟩⟩ ⟨⟨⟨?_⟩⟩⟩
    · have := mweighs o.weight (Γ := Γ)
      rw [decide_eq_true h2] at this
      exact this
    refine wlL ?_; refine zq1 ⟨fun ht => ⟨⟨?_⟩⟩⟩
    have hfc := hf (-1) hr
    refine clL [.far (.lit (.int .i64 (-1))) (k + 1) [(k, ⟨8, true, [opc o]⟩)] (MH m tk L) (MH m tk L)] ?_; refine zq3 ⟨⟨⟨?_⟩⟩⟩ ⟨⟨⟨?_⟩⟩⟩ ⟨⟨⟨?_⟩⟩⟩
    · intro i; simp only [MH, LH, mrow, opc, List.cons_append, List.nil_append]
    · exact MH_apart (fun i hi => by simp only [AM.look]; repeat (rw [if_neg (by omega)])) rfl
    simp only [MH, LH]
    refine rRL ?_; apply zN
    refine wlL ?_; refine zq1 ⟨fun ht => ⟨⟨?_⟩⟩⟩
    have uU := Go.AM.uU; refine cRD ?_; apply zN
    refine ⟨?_, ?_⟩
    · rw [eRV]; rfl
    · rw [eRH]
      simp only [MH, LH]
      exact rRL hdT
  · have hfc := hf i hr
    have hT := hS.tk i hi
    have hTe := hT.e
    simp only [ent, decide_eq_true_eq] at hTe
    refine ⟨L.setT i ((L.tsk i).run (L.tsk i).v 0 o.weight), 0, 0, tk, k, hS.setT hi ⟨hT.id1, hT.id2, hT.g0, hT.g1, hT.c0, hT.c1, by simp [ent, Tk.run]; omega, hT.v0, hT.v1, Int.le_refl _, hT.m0, hT.m1, hT.m2, hT.m3⟩ rfl (fun c _ _ h3 h4 => ⟨h3, h4⟩), ⟨Fwd.setT, .inl rfl⟩, hm, ⟨hk, .inl rfl⟩, Nat.le_refl _, ?_⟩
    have hLs : (L.setT i ((L.tsk i).run (L.tsk i).v 0 o.weight)).sl.length = L.sl.length := rfl
    obtain ⟨RH, eRH⟩ : ∃ x : Heap, x = MH m tk (L.setT i ((L.tsk i).run (L.tsk i).v 0 o.weight)) := ⟨_, rfl⟩; obtain ⟨RV, eRV⟩ : ∃ x : AVal, x = res2 0 0 := ⟨_, rfl⟩; refine Tr.mono (Tr_in (k := k) (V := RV) (RH := RH) (by omega) (by rw [eRV]; rfl) (by rw [eRH]; exact MH_lt (by omega) (by omega)) ?_) (fun _ _ _ h => ⟨h.1, h.2.1.trans eRV, h.2.2.trans eRH⟩)
    refine Tr_at Tryz.func36 rfl 55 rfl (Nat.le_of_ble_eq_true rfl) ?_
    simp only [MH, LH]
    have kp : Kp [0,1,3,4,5,6,7,8,10,15,25] (fun i => i - k) := kpI
    refine wlL ?_; refine zq1 ⟨⟨⟨?_⟩⟩⟩
    refine clL [.ret (.lit (.bool true))] ?_; refine zq2 ⟨⟨⟨?_⟩⟩⟩ ⟨⟨⟨?_⟩⟩⟩
    · have := mtask o.task (Γ := Γ)
      rw [decide_eq_true h1] at this
      exact this
    refine wlL ?_; refine zq1 ⟨fun ht => ⟨⟨?_⟩⟩⟩
    refine clL [.ret (.lit (.bool true))] ?_; refine zq2 ⟨⟨⟨?_⟩⟩⟩ ⟨⟨⟨?_⟩⟩⟩
    · have := mweighs o.weight (Γ := Γ)
      rw [decide_eq_true h2] at this
      exact this
    refine wlL ?_; refine zq1 ⟨fun ht => ⟨⟨?_⟩⟩⟩
    refine clL [.far (.lit (.int .i64 (i : Int))) (k + 1) [(k, ⟨8, true, [opc o]⟩)] (MH m tk L) (MH m tk L)] ?_; refine zq3 ⟨⟨⟨?_⟩⟩⟩ ⟨⟨⟨?_⟩⟩⟩ ⟨⟨⟨?_⟩⟩⟩
    · intro i; simp only [MH, LH, mrow, opc, List.cons_append, List.nil_append]
    · exact MH_apart (fun i hi => by simp only [AM.look]; repeat (rw [if_neg (by omega)])) rfl
    simp only [MH, LH]
    refine rRL ?_; apply zN
    have kp : Kp [0,1,3,4,5,6,7,8,10,15,25] (fun i => if k ≤ i then i - k + 1 else 0) := kpI
    refine wlL ?_; refine zq1 ⟨fun ht => ⟨⟨?_⟩⟩⟩
    refine dlL [.ret (enc (L.tsk i).v (L.tsk i).r (L.tsk i).weight), .ret (.tup [enc (L.tsk i).v 0 o.weight, .lit (.int .i64 0)])] ?_; refine zq3 ⟨⟨⟨?_⟩⟩⟩ ⟨⟨⟨?_⟩⟩⟩ ⟨⟨⟨?_⟩⟩⟩
    · exact mentity _ _ _ (by omega) (by omega)
    · exact chargeWeigh _ _ _ _ hT.e h2.1 h2.2
    refine wlL ?_; refine zq1 ⟨⟨⟨?_⟩⟩⟩
    refine clL [.gen (.tup []) (k + 2) [(tk, ⟨8, true, tlR L⟩)] [(tk, ⟨8, true, (tlR L).set i (tkc ((L.tsk i).run (L.tsk i).v 0 o.weight))⟩)]] ?_; refine zq2 ⟨⟨⟨?_⟩⟩⟩ ⟨⟨⟨?_⟩⟩⟩
    · exact mput (L.tsk i) (L.tsk i).v 0 o.weight (tlR L) tk i (tlR_get hi) (by omega) (by omega) (k + 2) (by omega)
    refine wlL ?_; refine zq1 ⟨⟨⟨?_⟩⟩⟩
    have uU := Go.AM.uU; refine cRD ?_; apply zN
    refine ⟨?_, ?_⟩
    · rw [eRV]; rfl
    · rw [eRH, MH_setT]
      simp only [mrow]
      exact rRL hdT
end Go.Proofs.T
end
section
namespace Go.Proofs.T
open Go Go.AM Go.Proofs
set_option maxRecDepth 20000
variable {Γ : List (Nat × List AVal)}
theorem Fwd.trans {A B C : LSt} (h : Fwd A B) (g : Fwd B C) (hn : C.tl.length = B.tl.length ∨ B.tl.length ≤ A.tl.length) : Fwd A C :=
  ⟨g.cpus.trans h.cpus, g.credit.trans h.credit, g.ns.trans h.ns, fun x => (g.par x).trans (h.par x), fun c => Int.le_trans (h.clk c) (g.clk c), fun a c => Int.le_trans (h.fl a c) (g.fl a c), by have := h.nt; have := g.nt; omega, g.w0.trans h.w0⟩
theorem Fwd.setS {L : LSt} {g c : Nat} {s : Sp} (hg : g < L.sl.length) (hc : c < (L.sl.getD g []).length) (hf : (L.sp g c).floor ≤ s.floor) : Fwd L (L.setS g c s) :=
  ⟨rfl, rfl, setS_len, fun _ => rfl, fun _ => Int.le_refl _, fun a b => by
    rw [setS_sp hg hc]
    split
    · rename_i e; rw [e.1, e.2]; exact hf
    · exact Int.le_refl _, Nat.le_succ _, rfl⟩
theorem wkN_fwd {L : LSt} {n c : Nat} {l : List Nat} (h : Rt0 L n) (hc : c < n) (hl : ∀ g, g ∈ l → 0 < g ∧ g < L.sl.length) : ∀ {j : Nat}, j ≤ l.length → Fwd L (wkN L c l j) ∧ (wkN L c l j).tl = L.tl
  | 0, _ => ⟨Fwd.refl L, rfl⟩
  | j + 1, hj => by
    obtain ⟨h1, h2⟩ := wkN_fwd h hc hl (j := j) (by omega)
    obtain ⟨h3, h4⟩ := wkN_ok h hc hl (j := j) (by omega)
    have := hl (l.getD j 0) (by simp only [List.getD_eq_getElem?_getD]; rw [List.getElem?_eq_getElem (by omega)]; exact List.getElem_mem _)
    have hg : l.getD j 0 < (wkN L c l j).sl.length := by omega
    have e : (wkN L c l (j + 1)).tl = (wkN L c l j).tl := rfl
    exact ⟨h1.trans (Fwd.setS hg (by rw [h3.rows _ hg]; exact hc) (Int.le_refl _)) (.inl (by rw [e])), e.trans h2⟩
theorem Rt0.wake {L : LSt} {n c : Nat} {l : List Nat} (h : Rt0 L n) (hc : c < n) (hl : ∀ g, g ∈ l → 0 < g ∧ g < L.sl.length) : Rt0 (wakeL L c l) n ∧ Fwd L (wakeL L c l) ∧ (wakeL L c l).tl = L.tl :=
  ⟨(wkN_ok h hc hl (Nat.le_refl _)).1, wkN_fwd h hc hl (Nat.le_refl _)⟩
theorem wake0 (L : LSt) (c : Int) (m tk k : Nat) (hm : m + 6 + L.sl.length ≤ tk) (hk : tk < k) :
    Tr Tryz.prog Γ 75 k [.ptr m 0 0, .lit (.slice none 0 0), .lit (.int .i64 c)] (MH m tk L) (fun k1 r1 H1 => k1 = k ∧ r1 = .tup [] ∧ H1 = MH m tk L) := by
  obtain ⟨RH, eRH⟩ : ∃ x : Heap, x = MH m tk L := ⟨_, rfl⟩; obtain ⟨RV, eRV⟩ : ∃ x : AVal, x = .tup [] := ⟨_, rfl⟩; refine Tr.mono (Tr_in (k := k) (V := RV) (RH := RH) (by omega) (by rw [eRV]; rfl) (by rw [eRH]; exact MH_lt (by omega) (by omega)) ?_) (fun _ _ _ h => ⟨h.1, h.2.1.trans eRV, h.2.2.trans eRH⟩)
  obtain ⟨F, hF⟩ : ∃ F : Heap, F = MH m tk L := ⟨_, rfl⟩
  refine Tr_at Tryz.func75 rfl 82 rfl (Nat.le_of_ble_eq_true rfl) ?_
  simp only [MH, LH]
  have kp : Kp [0,1,2,7,8,9,10,12,13,14,15] (fun i => i - k) := kpI
  refine wlL ?_; refine zq1 ⟨⟨⟨?_⟩⟩⟩
  refine M_forO (X := Nat) rfl [0,1,2,7,8,9,10,12,13,14,15] k (fun j => [(14, .lit (.int .i64 (j : Int)))]) (fun j => F) (fun j => j = 0) (fun j => 0) 0 ?_ rfl ?_
  · rw [hF]
    simp only [MH, LH]
    refine rRL ?_; apply zN
    exact wkD
  rintro j rfl
  rw [hF]
  simp only [MH, LH]
  refine rRL ?_; apply zN
  refine wlL ?_; refine zq1 ⟨fun ht => ⟨⟨?_⟩⟩⟩
  refine ⟨_, rfl, by rw [eRV], ?_⟩
  rw [eRH]
  simp only [MH, LH]
  exact rRL hdT
theorem wake (L : LSt) (n c : Nat) (hS : Rt0 L n) (hc : c < n) (l : List Nat) (hl : ∀ g, g ∈ l → 0 < g ∧ g < L.sl.length) (hl2 : l.length ≤ 1000) (m tk e k : Nat) (hm : m + 6 + L.sl.length ≤ tk) (he : tk < e) (hk : e < k) :
    Tr Tryz.prog Γ 75 k [.ptr m 0 0, accV e (gR l), .lit (.int .i64 (c : Int))] (accH e 1 (gR l) (MH m tk L)) (fun k1 r1 H1 => k1 = k ∧ r1 = .tup [] ∧ H1 = accH e 1 (gR l) (MH m tk (wakeL L c l))) := by
  cases l with
  | nil => exact wake0 L c m tk k hm (by omega)
  | cons a r =>
    have e1 : accV e (gR (a :: r)) = .sl e 0 (a :: r).length := by
      show AVal.sl e 0 ((gR r).length + 1) = _
      rw [gR_len]; rfl
    rw [e1]
    exact wake1 L n c hS hc (a :: r) hl hl2 m tk e k hm he hk
end Go.Proofs.T
end
section
namespace Go.Proofs.T
open Go Go.AM Go.Proofs
set_option maxRecDepth 20000
variable {Γ : List (Nat × List AVal)}
theorem andZ_bd {a b : Int} (h1 : 0 ≤ a) (h3 : 0 ≤ b) : 0 ≤ andZ a b ∧ andZ a b ≤ 18446744073709551615 := by unfold andZ; split <;> omega
theorem moved_ok {v r w a b : Int} (he : ent v r w = true) (hv : 0 ≤ v) (hv2 : v ≤ 18446744073709551615) (hr : 0 ≤ r) (ha : 0 ≤ a) (ha2 : a ≤ 18446744073709551615) (hb : 0 ≤ b) (hb2 : b ≤ 18446744073709551615) :
    ent (movedZ v r a b).1 (movedZ v r a b).2 w = true ∧ 0 ≤ (movedZ v r a b).1 ∧ (movedZ v r a b).1 ≤ 18446744073709551615 ∧ 0 ≤ (movedZ v r a b).2 := by
  obtain ⟨x, ex, h1, h2⟩ : ∃ x, x = (if a ≤ v then andZ b (v - a) else lessZ b (a - v)) ∧ 0 ≤ x ∧ x ≤ 18446744073709551615 := by
    refine ⟨_, rfl, ?_⟩
    split
    · exact andZ_bd hb (by omega)
    · exact lessZ_bd hb hb2 (by omega)
  simp only [ent, decide_eq_true_eq] at he
  unfold movedZ
  simp only [← ex, ent, decide_eq_true_eq]
  split <;> (refine ⟨?_, h1, h2, ?_⟩ <;> omega)
theorem look_acc2 {id s q : Nat} {l : List (List AVal)} {X Y : Heap} (h : AM.look X q = AM.look Y q) : AM.look (accH id s l X) q = AM.look (accH id s l Y) q := by
  cases l with
  | nil => exact h
  | cons a r => simp only [accH, AM.look]; split; rfl; exact h
theorem look_cons2 {a q : Nat} {B : Blk} {X Y : Heap} (h : AM.look X q = AM.look Y q) : AM.look ((a, B) :: X) q = AM.look ((a, B) :: Y) q := by
  simp only [AM.look]; split; rfl; exact h
theorem perm_tk {m tk a id s : Nat} {B X B0 B1 B2 B3 B5 : Blk} {l : List (List AVal)} {F : Heap} (h1 : tk ≠ a) (h2 : tk ≠ id) (hm : m + 6 ≤ tk) (q : Nat) :
    AM.look ((tk, B) :: (a, X) :: accH id s l ((m, B0) :: (m + 1, B1) :: (m + 2, B2) :: (m + 3, B3) :: (m + 5, B5) :: F)) q = AM.look ((a, X) :: accH id s l ((m, B0) :: (m + 1, B1) :: (m + 2, B2) :: (m + 3, B3) :: (m + 5, B5) :: (tk, B) :: F)) q := by
  by_cases hq : q = tk
  · subst hq
    have e1 : AM.look ((a, X) :: accH id s l ((m, B0) :: (m + 1, B1) :: (m + 2, B2) :: (m + 3, B3) :: (m + 5, B5) :: (q, B) :: F)) q = some B := by
      simp only [AM.look]
      rw [if_neg (Ne.symm h1), look_acc (Ne.symm h2)]
      simp only [AM.look]
      repeat rw [if_neg (by omega)]
      rw [if_pos trivial]
    rw [e1]
    simp only [AM.look, if_true]
  · have e1 : ∀ Z, AM.look ((tk, B) :: Z) q = AM.look Z q := fun Z => by simp only [AM.look]; rw [if_neg (fun h => hq h.symm)]
    rw [e1]
    refine look_cons2 (look_acc2 (look_cons2 (look_cons2 (look_cons2 (look_cons2 (look_cons2 ?_))))))
    rw [e1]
theorem keyB_acc {id s i : Nat} {l : List (List AVal)} {H : Heap} (h : keyB (accH id s l H) i = true) : i = id ∨ keyB H i = true := by
  cases l with
  | nil => exact .inr h
  | cons a r =>
    simp only [accH, keyB, AM.look] at h
    split at h
    · rename_i e; exact .inl e.symm
    · exact .inr h
theorem bd0_mono {p q : Nat → Bool} (h : ∀ i, p i = true → q i = true) {v : AVal} (hv : bd0 p v = true) : bd0 q v = true := by
  cases v <;> simp only [bd0] at hv ⊢ <;> first | exact h _ hv | exact hv
theorem bdH_mono {p q : Nat → Bool} (h : ∀ i, p i = true → q i = true) {H : Heap} (hH : bdH p H = true) : bdH q H = true := by
  simp only [bdH, List.all_eq_true, Bool.and_eq_true, Bool.or_eq_true] at hH ⊢
  intro x hx
  obtain ⟨h1, h2⟩ := hH x hx
  exact ⟨h _ h1, h2.imp id (fun h3 row hrow v hv => bd0_mono h (h3 row hrow v hv))⟩
theorem accH_keyB {k s : Nat} {l : List (List AVal)} {H : Heap} (h : bdH (keyB H) H = true) : bdH (keyB (accH k s l H)) (accH k s l H) = true := by
  cases l with
  | nil => exact h
  | cons a r =>
    refine bdH_cons1 (by simp [accH, keyB, AM.look]) (bdH_mono (fun i hi => ?_) h)
    simp only [accH, keyB, AM.look]
    split
    · rfl
    · exact hi
theorem apart_acc {loc X Y : Heap} {k s : Nat} {l : List (List AVal)} (h1 : AM.look loc k = none) (h : apartH loc X Y) : apartH loc (accH k s l X) (accH k s l Y) := fun i hi => by
  rcases hi with hi | hi
  · rcases keyB_acc hi with rfl | hi
    · exact h1
    · exact h i (.inl hi)
  · rcases keyB_acc hi with rfl | hi
    · exact h1
    · exact h i (.inr hi)
def Tk.cpuTo (t : Tk) (c : Nat) : Tk := { t with cpu := c }
set_option maxHeartbeats 8000000 in
theorem move (L : LSt) (n : Nat) (hS : Rt0 L n) (i : Nat) (hi : i < L.tl.length) (to : Nat) (hto : to < n) (hmask : (L.tsk i).mask / 2 ^ to % 2 = 1) (hcur : ∀ c, c < n → L.cur c ≠ (L.tsk i).id) (m tk k : Nat) (hm : m + 6 + L.sl.length ≤ tk) (hk : tk < k) :
    ∃ L', Rt0 L' n ∧ Fwd L L' ∧ Tr Tryz.prog Γ 83 k [.ptr m 0 0, .lit (.int .i64 (i : Int)), .lit (.int .i64 (to : Int))] (MH m tk L) (fun k1 r1 H1 => k1 = k ∧ r1 = .tup [] ∧ H1 = MH m tk L') := by
  have hT := hS.tk i hi
  have hnt := hS.nt
  have hns := hS.ns
  obtain ⟨g, hg⟩ : ∃ g : Nat, (L.tsk i).group = (g : Int) := ⟨(L.tsk i).group.toNat, by have := hT.g0; omega⟩
  obtain ⟨c, hc⟩ : ∃ c : Nat, (L.tsk i).cpu = (c : Int) := ⟨(L.tsk i).cpu.toNat, by have := hT.c0; omega⟩
  have hg1 : g < L.sl.length := by have := hT.g1; omega
  have hc1 : c < n := by have := hT.c1; omega
  have hrow := hS.rows g hg1
  have hTe := hT.e
  simp only [ent, decide_eq_true_eq] at hTe
  have hsa := hS.sp g c hg1 hc1
  have hsb := hS.sp g to hg1 hto
  have hmv := moved_ok hT.e hT.v0 hT.v1 hT.r0 hsa.2.2.2.2.1 hsa.2.2.2.2.2 hsb.2.2.2.2.1 hsb.2.2.2.2.2
  obtain ⟨z, ez⟩ : ∃ z, z = movedZ (L.tsk i).v (L.tsk i).r (L.sp g c).floor (L.sp g to).floor := ⟨_, rfl⟩
  rw [← ez] at hmv
  obtain ⟨T1, eT⟩ : ∃ T1, T1 = ((L.tsk i).run z.1 z.2 (L.tsk i).weight).cpuTo to := ⟨_, rfl⟩
  have hL1 : Rt0 (L.setT i T1) n := by
    rw [eT]
    refine hS.setT hi ⟨hT.id1, hT.id2, hT.g0, hT.g1, Int.natCast_nonneg _, by show ((to : Nat) : Int) < n; omega, hmv.1, hmv.2.1, hmv.2.2.1, hmv.2.2.2, hT.m0, hT.m1, hT.m2, by show (L.tsk i).mask / 2 ^ ((to : Nat) : Int).toNat % 2 = 1; exact hmask⟩ rfl (fun c hc hcc _ _ => absurd hcc (hcur c hc))
  obtain ⟨E, eE⟩ : ∃ E, E = emptyF L L.sl.length g to := ⟨_, rfl⟩
  have hE1 : ∀ x, x ∈ E → 0 < x ∧ x < L.sl.length := by rw [eE]; exact emptyF_mem hS hg1
  have hE2 : E.length ≤ g := by rw [eE]; exact emptyF_len hS hg1
  have hemp := empty L n to g hS hto hg1 E eE m tk k hm hk (Γ := Γ)
  have hwk := hL1.wake hto (l := E) hE1
  have hset : ∀ x, ((tlR L).set i x)[i]? = some x := fun x => List.getElem?_set_self (by rw [tlR_len]; exact hi)
  by_cases hr : (L.tsk i).ready = true
  · refine ⟨wakeL (L.setT i T1) to E, hwk.1, Fwd.setT.trans hwk.2.1 (.inl (by rw [hwk.2.2])), ?_⟩
    have hLs : (wakeL (L.setT i T1) to E).sl.length = L.sl.length := hwk.2.1.ns
    obtain ⟨RH, eRH⟩ : ∃ x : Heap, x = MH m tk (wakeL (L.setT i T1) to E) := ⟨_, rfl⟩; obtain ⟨RV, eRV⟩ : ∃ x : AVal, x = .tup [] := ⟨_, rfl⟩; refine Tr.mono (Tr_in (k := k) (V := RV) (RH := RH) (by omega) (by rw [eRV]; rfl) (by rw [eRH]; exact MH_lt (by omega) (by omega)) ?_) (fun _ _ _ h => ⟨h.1, h.2.1.trans eRV, h.2.2.trans eRH⟩)
    refine Tr_at Tryz.func83 rfl 81 rfl (Nat.le_of_ble_eq_true rfl) ?_
    simp only [MH, LH]
    have kp : Kp [0,1,2,6,7,8,9,76] (fun i => if k ≤ i then i - k + 1 else 0) := kpI
    have uU := zA @hg (zA @hc (zA @hrow @hr))
    refine wlL ?_; refine zq1 ⟨⟨⟨?_⟩⟩⟩
    refine clL [.far (accV k (gR E)) (k + 1) [] (MH m tk L) (accH k 1 (gR E) (MH m tk L))] ?_; refine zq3 ⟨⟨⟨?_⟩⟩⟩ ⟨⟨⟨?_⟩⟩⟩ ⟨⟨⟨?_⟩⟩⟩
    · intro q; rfl
    · exact fun q hq => rfl
    simp only [MH, LH]
    refine rRL ?_; apply zN
    refine wlL ?_; refine zq1 ⟨⟨⟨?_⟩⟩⟩
    refine dlL [.ret (enc (L.tsk i).v (L.tsk i).r (L.tsk i).weight), .ret (.tup [enc z.1 z.2 (L.tsk i).weight, .lit (.int .i64 0)])] ?_; refine zq3 ⟨⟨⟨?_⟩⟩⟩ ⟨⟨⟨?_⟩⟩⟩ ⟨⟨⟨?_⟩⟩⟩
    · exact mentity _ _ _ (by omega) (by omega)
    · rw [ez]
      exact pmoved _ _ _ _ _ hT.e hT.v0 hT.v1 hsa.2.2.2.2.1 hsa.2.2.2.2.2 hsb.2.2.2.2.1 hsb.2.2.2.2.2
    refine wlL ?_; refine zq1 ⟨⟨⟨?_⟩⟩⟩
    refine clL [.gen (.tup []) (k + 2) [(tk, ⟨8, true, tlR L⟩)] [(tk, ⟨8, true, (tlR L).set i (tkc ((L.tsk i).run z.1 z.2 (L.tsk i).weight))⟩)]] ?_; refine zq2 ⟨⟨⟨?_⟩⟩⟩ ⟨⟨⟨?_⟩⟩⟩
    · exact mput (L.tsk i) z.1 z.2 (L.tsk i).weight (tlR L) tk i (tlR_get hi) (by omega) (by omega) (k + 2) (by omega)
    have uU := zA @hg (zA @hc (zA @hrow (zA @hr (zA @hset (zA @ssN @Tk.run.eq_1)))))
    refine wlL ?_; refine zq1 ⟨fun ht => ⟨⟨?_⟩⟩⟩
    have hwc := wake (L.setT i T1) n to hL1 hto E hE1 (by omega) m tk k (k + 2) hm hk (by omega) (Γ := Γ)
    have hT1 : tkc T1 = [.lit (.int .i64 (L.tsk i).id), .lit (.int .i64 (g : Int)), .lit (.int .i64 (L.tsk i).weight), .lit (.int .i64 (to : Int)), .lit (.int .u64 (L.tsk i).mask), .lit (.bool true), .lit (.int .u64 z.1), .lit (.int .u32 z.2)] := by rw [eT, ← hg, ← hr]; rfl
    refine clL [.far (.tup []) (k + 2) [(k + 1, ⟨3, true, [[.lit (.int .u64 z.1), .lit (.int .u32 z.2), .lit (.int .u32 (L.tsk i).weight)]]⟩)] (accH k 1 (gR E) (MH m tk (L.setT i T1))) (accH k 1 (gR E) (MH m tk (wakeL (L.setT i T1) to E)))] ?_; refine zq5 ⟨⟨⟨?_⟩⟩⟩ ⟨⟨⟨?_⟩⟩⟩ ⟨⟨⟨?_⟩⟩⟩ ⟨⟨⟨?_⟩⟩⟩ ⟨⟨⟨?_⟩⟩⟩
    · exact bd_accK (by rw [accIs_self]; trivial)
    · exact accH_keyB MH_keyB
    · intro q
      rw [MH_setT, hT1]
      exact perm_tk (by omega) (by omega) (by omega) q
    · exact apart_acc (by simp only [AM.look]; rw [if_neg (by omega)]) (MH_apart (fun q hq => by have hLr : (L.setT i T1).sl.length = L.sl.length := rfl; simp only [AM.look]; rw [if_neg (by omega)]) (by rw [hLs]; rfl))
    refine ⟨_, rfl, by rw [eRV], ?_⟩
    rw [eRH]
    simp only [MH, LH]
    exact rRL hdT
  · refine ⟨L.setT i T1, hL1, Fwd.setT, ?_⟩
    have hLs : (L.setT i T1).sl.length = L.sl.length := rfl
    have hr : (L.tsk i).ready = false := by simpa using hr
    have hT1 : tkc T1 = [.lit (.int .i64 (L.tsk i).id), .lit (.int .i64 (g : Int)), .lit (.int .i64 (L.tsk i).weight), .lit (.int .i64 (to : Int)), .lit (.int .u64 (L.tsk i).mask), .lit (.bool false), .lit (.int .u64 z.1), .lit (.int .u32 z.2)] := by rw [eT, ← hg, ← hr]; rfl
    obtain ⟨RH, eRH⟩ : ∃ x : Heap, x = MH m tk (L.setT i T1) := ⟨_, rfl⟩; obtain ⟨RV, eRV⟩ : ∃ x : AVal, x = .tup [] := ⟨_, rfl⟩; refine Tr.mono (Tr_in (k := k) (V := RV) (RH := RH) (by omega) (by rw [eRV]; rfl) (by rw [eRH]; exact MH_lt (by omega) (by omega)) ?_) (fun _ _ _ h => ⟨h.1, h.2.1.trans eRV, h.2.2.trans eRH⟩)
    refine Tr_at Tryz.func83 rfl 81 rfl (Nat.le_of_ble_eq_true rfl) ?_
    simp only [MH, LH]
    have kp : Kp [0,1,2,6,7,8,9,76] (fun i => if k ≤ i then i - k + 1 else 0) := kpI
    have uU := zA @hg (zA @hc (zA @hrow @hr))
    refine wlL ?_; refine zq1 ⟨⟨⟨?_⟩⟩⟩
    refine clL [.far (accV k (gR E)) (k + 1) [] (MH m tk L) (accH k 1 (gR E) (MH m tk L))] ?_; refine zq3 ⟨⟨⟨?_⟩⟩⟩ ⟨⟨⟨?_⟩⟩⟩ ⟨⟨⟨?_⟩⟩⟩
    · intro q; rfl
    · exact fun q hq => rfl
    simp only [MH, LH]
    refine rRL ?_; apply zN
    refine wlL ?_; refine zq1 ⟨⟨⟨?_⟩⟩⟩
    refine dlL [.ret (enc (L.tsk i).v (L.tsk i).r (L.tsk i).weight), .ret (.tup [enc z.1 z.2 (L.tsk i).weight, .lit (.int .i64 0)])] ?_; refine zq3 ⟨⟨⟨?_⟩⟩⟩ ⟨⟨⟨?_⟩⟩⟩ ⟨⟨⟨?_⟩⟩⟩
    · exact mentity _ _ _ (by omega) (by omega)
    · rw [ez]
      exact pmoved _ _ _ _ _ hT.e hT.v0 hT.v1 hsa.2.2.2.2.1 hsa.2.2.2.2.2 hsb.2.2.2.2.1 hsb.2.2.2.2.2
    refine wlL ?_; refine zq1 ⟨⟨⟨?_⟩⟩⟩
    refine clL [.gen (.tup []) (k + 2) [(tk, ⟨8, true, tlR L⟩)] [(tk, ⟨8, true, (tlR L).set i (tkc ((L.tsk i).run z.1 z.2 (L.tsk i).weight))⟩)]] ?_; refine zq2 ⟨⟨⟨?_⟩⟩⟩ ⟨⟨⟨?_⟩⟩⟩
    · exact mput (L.tsk i) z.1 z.2 (L.tsk i).weight (tlR L) tk i (tlR_get hi) (by omega) (by omega) (k + 2) (by omega)
    have uU := zA @hg (zA @hc (zA @hrow (zA @hr (zA @hset (zA @ssN @Tk.run.eq_1)))))
    refine wlL ?_; refine zq1 ⟨fun ht => ⟨⟨?_⟩⟩⟩
    refine ⟨_, rfl, by rw [eRV], ?_⟩
    rw [eRH, MH_setT, hT1]
    simp only [mrow]
    exact rRL hdT
end Go.Proofs.T
end
section
namespace Go.Proofs.T
open Go Go.AM Go.Proofs
set_option maxRecDepth 20000
variable {Γ : List (Nat × List AVal)}
theorem indexP (L : LSt) (x : Int) (hn : L.ul.length ≤ 100000) : ∃ r : Int, (0 ≤ r ↔ ∃ c, c < L.ul.length ∧ L.cur c = x) ∧ Pure Tryz.prog Γ 112 [.rd 1 L.ul.length (ufL L), .lit (.int .i64 x)] (.lit (.int .i64 r)) := by
  obtain ⟨r, hr, hr2⟩ : ∃ r : Int, (∀ i : Nat, (∀ j, j < i → L.cur j ≠ x) → i < L.ul.length → L.cur i = x → r = i) ∧ ((∀ j, j < L.ul.length → L.cur j ≠ x) → r = -1) ∧ (0 ≤ r ↔ ∃ c, c < L.ul.length ∧ L.cur c = x) := by
    by_cases h : ∃ c, c < L.ul.length ∧ L.cur c = x
    · have hmin : ∃ c, (c < L.ul.length ∧ L.cur c = x) ∧ ∀ j, j < c → L.cur j ≠ x := by
        obtain ⟨c, hc⟩ := h
        induction c using Nat.strongRecOn with
        | _ c ih =>
          by_cases h2 : ∃ j, j < c ∧ L.cur j = x
          · obtain ⟨j, h3, h4⟩ := h2
            exact ih j h3 ⟨by omega, h4⟩
          · exact ⟨c, hc, fun j hj e => h2 ⟨j, hj, e⟩⟩
      obtain ⟨c, hc, hm⟩ := hmin
      refine ⟨(c : Int), fun i hi h1 h2 => ?_, fun hall => absurd hc.2 (hall c hc.1), fun _ => ⟨c, hc⟩, fun _ => Int.natCast_nonneg _⟩
      rcases Nat.lt_trichotomy i c with e | e | e
      · exact absurd h2 (hm i e)
      · rw [e]
      · exact absurd hc.2 (hi c e)
    · exact ⟨-1, fun i _ h1 h2 => absurd ⟨i, h1, h2⟩ h, fun _ => rfl, fun h0 => by omega, fun h0 => absurd h0 h⟩
  refine ⟨r, hr2.2, ?_⟩
  obtain ⟨RV, eRV⟩ : ∃ y, y = AVal.lit (.int .i64 r) := ⟨_, rfl⟩
  rw [← eRV]
  refine Pure_at Tryz.func112 rfl 19 rfl (Nat.le_of_ble_eq_true rfl) (by rw [eRV]; rfl) fun k => ?_
  have kp : Kp [0,1,4,5,7,8,9,16] (fun i => i - k) := kpI
  refine wlL ?_; refine zq1 ⟨⟨⟨?_⟩⟩⟩
  refine M_forO (X := Nat) rfl [0,1,4,5,7,8,9,16] k (fun i => [(8, .lit (.int .i64 (i : Int)))]) (fun i => []) (fun i => i ≤ L.ul.length ∧ ∀ j, j < i → L.cur j ≠ x) (fun i => L.ul.length - i) 0 ?_ ⟨Nat.zero_le _, fun j hj => absurd hj (Nat.not_lt_zero _)⟩ ?_
  · refine rRL ?_; apply zN
    exact wkD
  rintro i ⟨hi, hall⟩
  refine rRL ?_; apply zN
  refine wlL ?_; refine zq3 ⟨fun ht ht => ⟨⟨?_⟩⟩⟩ ⟨fun ht ht => ⟨⟨?_⟩⟩⟩ ⟨fun ht => ⟨⟨?_⟩⟩⟩
  · have uU := Go.AM.uU; refine cRD ?_; apply zN
    exact VLe.of_eq (by rw [eRV, hr i hall (by omega) (by omega)])
  · refine ⟨i + 1, ⟨by omega, fun j hj => ?_⟩, by omega, ?_⟩
    · by_cases he : j = i
      · subst he; omega
      · exact hall j (by omega)
    · refine rRL ?_; apply zN
      exact wkD
  · have uU := Go.AM.uU; refine cRD ?_; apply zN
    exact VLe.of_eq (by rw [eRV, hr2.1 (fun j hj => hall j (by omega))])
theorem containsP (L : LSt) (x : Int) (hn : L.ul.length ≤ 100000) : ∃ b : Bool, (b = true ↔ ∃ c, c < L.ul.length ∧ L.cur c = x) ∧ Pure Tryz.prog Γ 82 [.rd 1 L.ul.length (ufL L), .lit (.int .i64 x)] (.lit (.bool b)) := by
  obtain ⟨r, hr, hp⟩ := indexP L x hn (Γ := Γ)
  refine ⟨decide (0 ≤ r), by rw [decide_eq_true_eq]; exact hr, ?_⟩
  refine Pure_at Tryz.func82 rfl 9 rfl (Nat.le_of_ble_eq_true rfl) rfl fun k => ?_
  have kp : Kp [0,1,4] (fun i => i - k) := kpI
  refine wlL ?_; refine zq1 ⟨⟨⟨?_⟩⟩⟩
  refine clL [.ret (.lit (.int .i64 r))] ?_; refine zq1 ⟨⟨⟨?_⟩⟩⟩
  refine C_ret rfl ⟨_, rfl, VLe.of_eq ?_⟩
  rfl
end Go.Proofs.T
end
section
namespace Go.Proofs.T
open Go Go.AM Go.Proofs
set_option maxRecDepth 20000
variable {Γ : List (Nat × List AVal)}
theorem and1_eq {x : Int} (h1 : 0 ≤ x) (h2 : x < 18446744073709551616) : IntKind.u64.wrap ((BitVec.ofInt IntKind.u64.bits x &&& BitVec.ofInt IntKind.u64.bits 1).toNat : Int) = x % 2 := by
  obtain ⟨n, rfl⟩ : ∃ n : Nat, x = (n : Int) := ⟨x.toNat, by omega⟩
  have e1 : (BitVec.ofInt IntKind.u64.bits (n : Int) &&& BitVec.ofInt IntKind.u64.bits 1).toNat = n % 2 := by
    rw [BitVec.toNat_and]
    have a : (BitVec.ofInt IntKind.u64.bits (n : Int)).toNat = n := by
      show (BitVec.ofInt 64 (n : Int)).toNat = n
      rw [BitVec.ofInt_natCast, BitVec.toNat_ofNat]
      exact Nat.mod_eq_of_lt (by omega)
    have b : (BitVec.ofInt IntKind.u64.bits 1).toNat = 1 := by decide
    rw [a, b, Nat.and_one_is_mod]
  rw [e1]
  exact wrap_u64 (by omega) (by omega)
theorem mask_bit {x : Int} {c : Int} (h1 : 0 ≤ x) (h2 : x < 18446744073709551616) (h3 : 0 ≤ c) (h4 : c < 64) : IntKind.u64.wrap ((BitVec.ofInt IntKind.u64.bits (x.fdiv (2 ^ min c.toNat 64)) &&& BitVec.ofInt IntKind.u64.bits 1).toNat : Int) = x / 2 ^ c.toNat % 2 := by
  rw [show min c.toNat 64 = c.toNat by omega, Int.fdiv_eq_ediv_of_nonneg _ (Int.pow_nonneg (by omega))]
  have h5 : 0 ≤ x / 2 ^ c.toNat := Int.ediv_nonneg h1 (Int.pow_nonneg (by omega))
  have h6 : x / 2 ^ c.toNat ≤ x := Int.ediv_le_self _ h1
  exact and1_eq h5 (by omega)
set_option maxHeartbeats 8000000 in
theorem migrate (L : LSt) (n : Nat) (hS : Rt0 L n) (o : Opn) (m tk k : Nat) (hm : m + 6 + L.sl.length ≤ tk) (hk : tk < k) : OpOk Γ 38 L n o m tk k := by
  have hnt := hS.nt
  have hcp := hS.cpus
  have hnu := hS.nu
  have hn64 := hS.n64
  have hcpu := cpu L o.to m tk (k + 1) hm (by omega) (Γ := Γ)
  have htask := mtask o.task (Γ := Γ)
  by_cases h1 : 0 ≤ o.to ∧ o.to < L.cpus
  rotate_left
  · rw [decide_eq_false h1] at hcpu
    refine ⟨L, 0, 300, tk, k, hS, ⟨Fwd.refl L, .inr rfl⟩, hm, ⟨hk, .inl rfl⟩, Nat.le_refl _, ?_⟩
    obtain ⟨RH, eRH⟩ : ∃ x : Heap, x = MH m tk L := ⟨_, rfl⟩; obtain ⟨RV, eRV⟩ : ∃ x : AVal, x = res2 0 300 := ⟨_, rfl⟩; refine Tr.mono (Tr_in (k := k) (V := RV) (RH := RH) (by omega) (by rw [eRV]; rfl) (by rw [eRH]; exact MH_lt (by omega) (by omega)) ?_) (fun _ _ _ h => ⟨h.1, h.2.1.trans eRV, h.2.2.trans eRH⟩)
    refine Tr_at Tryz.func38 rfl 67 rfl (Nat.le_of_ble_eq_true rfl) ?_
    simp only [MH, LH]
    have kp : Kp [0,1,3,4,5,6,7,13,22,25,34,47] (fun i => i - k) := kpI
    refine wlL ?_; refine zq1 ⟨⟨⟨?_⟩⟩⟩
    refine clL [.far (.lit (.bool false)) (k + 1) [(k, ⟨8, true, [opc o]⟩)] (MH m tk L) (MH m tk L)] ?_; refine zq3 ⟨⟨⟨?_⟩⟩⟩ ⟨⟨⟨?_⟩⟩⟩ ⟨⟨⟨?_⟩⟩⟩
    · intro q; simp only [MH, LH, mrow, opc, List.cons_append, List.nil_append]
    · exact MH_apart (fun i hi => by simp only [AM.look]; repeat (rw [if_neg (by omega)])) rfl
    simp only [MH, LH]
    refine rRL ?_; apply zN
    refine wlL ?_; refine zq1 ⟨fun ht => ⟨⟨?_⟩⟩⟩
    have uU := Go.AM.uU; refine cRD ?_; apply zN
    refine ⟨?_, ?_⟩
    · rw [eRV]; rfl
    · rw [eRH]
      simp only [MH, LH]
      exact rRL hdT
  rw [decide_eq_true h1] at hcpu
  by_cases h2 : 1 ≤ o.task ∧ o.task ≤ 65535
  rotate_left
  · rw [decide_eq_false h2] at htask
    refine ⟨L, 0, 301, tk, k, hS, ⟨Fwd.refl L, .inr rfl⟩, hm, ⟨hk, .inl rfl⟩, Nat.le_refl _, ?_⟩
    obtain ⟨RH, eRH⟩ : ∃ x : Heap, x = MH m tk L := ⟨_, rfl⟩; obtain ⟨RV, eRV⟩ : ∃ x : AVal, x = res2 0 301 := ⟨_, rfl⟩; refine Tr.mono (Tr_in (k := k) (V := RV) (RH := RH) (by omega) (by rw [eRV]; rfl) (by rw [eRH]; exact MH_lt (by omega) (by omega)) ?_) (fun _ _ _ h => ⟨h.1, h.2.1.trans eRV, h.2.2.trans eRH⟩)
    refine Tr_at Tryz.func38 rfl 67 rfl (Nat.le_of_ble_eq_true rfl) ?_
    simp only [MH, LH]
    have kp : Kp [0,1,3,4,5,6,7,13,22,25,34,47] (fun i => i - k) := kpI
    refine wlL ?_; refine zq1 ⟨⟨⟨?_⟩⟩⟩
    refine clL [.far (.lit (.bool true)) (k + 1) [(k, ⟨8, true, [opc o]⟩)] (MH m tk L) (MH m tk L)] ?_; refine zq3 ⟨⟨⟨?_⟩⟩⟩ ⟨⟨⟨?_⟩⟩⟩ ⟨⟨⟨?_⟩⟩⟩
    · intro q; simp only [MH, LH, mrow, opc, List.cons_append, List.nil_append]
    · exact MH_apart (fun i hi => by simp only [AM.look]; repeat (rw [if_neg (by omega)])) rfl
    simp only [MH, LH]
    refine rRL ?_; apply zN
    refine wlL ?_; refine zq1 ⟨fun ht => ⟨⟨?_⟩⟩⟩
    refine clL [.ret (.lit (.bool false))] ?_; refine zq1 ⟨⟨⟨?_⟩⟩⟩
    refine wlL ?_; refine zq1 ⟨fun ht => ⟨⟨?_⟩⟩⟩
    have uU := Go.AM.uU; refine cRD ?_; apply zN
    refine ⟨?_, ?_⟩
    · rw [eRV]; rfl
    · rw [eRH]
      simp only [MH, LH]
      exact rRL hdT
  rw [decide_eq_true h2] at htask
  rcases find_cases hS o.task with hr | ⟨i, hi, hid, hr⟩
  · have hfc := find L o.task (-1) hr hS.sorted (by omega) m tk (k + 1) hm (by omega) (Γ := Γ)
    refine ⟨L, 0, 6, tk, k, hS, ⟨Fwd.refl L, .inr rfl⟩, hm, ⟨hk, .inl rfl⟩, Nat.le_refl _, ?_⟩
    obtain ⟨RH, eRH⟩ : ∃ x : Heap, x = MH m tk L := ⟨_, rfl⟩; obtain ⟨RV, eRV⟩ : ∃ x : AVal, x = res2 0 6 := ⟨_, rfl⟩; refine Tr.mono (Tr_in (k := k) (V := RV) (RH := RH) (by omega) (by rw [eRV]; rfl) (by rw [eRH]; exact MH_lt (by omega) (by omega)) ?_) (fun _ _ _ h => ⟨h.1, h.2.1.trans eRV, h.2.2.trans eRH⟩)
    refine Tr_at Tryz.func38 rfl 67 rfl (Nat.le_of_ble_eq_true rfl) ?_
    simp only [MH, LH]
    have kp : Kp [0,1,3,4,5,6,7,13,22,25,34,47] (fun i => i - k) := kpI
    refine wlL ?_; refine zq1 ⟨⟨⟨?_⟩⟩⟩
    refine clL [.far (.lit (.bool true)) (k + 1) [(k, ⟨8, true, [opc o]⟩)] (MH m tk L) (MH m tk L)] ?_; refine zq3 ⟨⟨⟨?_⟩⟩⟩ ⟨⟨⟨?_⟩⟩⟩ ⟨⟨⟨?_⟩⟩⟩
    · intro q; simp only [MH, LH, mrow, opc, List.cons_append, List.nil_append]
    · exact MH_apart (fun i hi => by simp only [AM.look]; repeat (rw [if_neg (by omega)])) rfl
    simp only [MH, LH]
    refine rRL ?_; apply zN
    refine wlL ?_; refine zq1 ⟨fun ht => ⟨⟨?_⟩⟩⟩
    refine clL [.ret (.lit (.bool true))] ?_; refine zq1 ⟨⟨⟨?_⟩⟩⟩
    refine wlL ?_; refine zq1 ⟨fun ht => ⟨⟨?_⟩⟩⟩
    refine clL [.far (.lit (.int .i64 (-1))) (k + 1) [(k, ⟨8, true, [opc o]⟩)] (MH m tk L) (MH m tk L)] ?_; refine zq3 ⟨⟨⟨?_⟩⟩⟩ ⟨⟨⟨?_⟩⟩⟩ ⟨⟨⟨?_⟩⟩⟩
    · intro q; simp only [MH, LH, mrow, opc, List.cons_append, List.nil_append]
    · exact MH_apart (fun i hi => by simp only [AM.look]; repeat (rw [if_neg (by omega)])) rfl
    simp only [MH, LH]
    refine rRL ?_; apply zN
    refine wlL ?_; refine zq1 ⟨fun ht => ⟨⟨?_⟩⟩⟩
    have uU := Go.AM.uU; refine cRD ?_; apply zN
    refine ⟨?_, ?_⟩
    · rw [eRV]; rfl
    · rw [eRH]
      simp only [MH, LH]
      exact rRL hdT
  have hfc := find L o.task i hr hS.sorted (by omega) m tk (k + 1) hm (by omega) (Γ := Γ)
  obtain ⟨b, hb, hbp⟩ := containsP L o.task (by omega) (Γ := Γ)
  obtain ⟨to, hto⟩ : ∃ to : Nat, o.to = (to : Int) := ⟨o.to.toNat, by omega⟩
  obtain ⟨NM, eNM⟩ : ∃ x, x = [m + 3] := ⟨_, rfl⟩
  have hlend : ∀ {o' : Oper} {ev : Operand → Option AVal} {f : Operand} {args : Array Operand} {ty : Array TypeId} {B0 : Blk} (ho : o'.op = .call { callee := .value f, args := args, argTypes := ty }) (hg : callable Tryz.prog 82 = true) (hf : ev f = some (.fn 82 [])) (ha : evArgs ev args.toList = some [.sl (m + 3) 0 L.ul.length, .lit (.int .i64 o.task)]),
      AM.Good Tryz.prog Γ o' ev (AM.look ((k, B0) :: MH m tk L)) (k + 1) ⟨.lit (.bool b), k + 1, [], [m + 3]⟩ := fun {o'} {ev} {f} {args} {ty} {B0} ho hg hf ha =>
    ro_good (Hc := [(m + 3, ⟨1, true, ulR L⟩)]) ho hg hf ha (.cons (bor_sl (B := ⟨1, true, ulR L⟩) (by simp [AM.look]) (by rw [ulR_len]; exact Nat.le_refl _) (fun _ _ => rfl) fun j hj => ⟨_, ulR_get hj, bor_lits rfl⟩) (.cons Bor.lit .nil)) (fun id B h => by
      simp only [AM.look] at h
      split at h
      · rename_i e; subst e; cases h
        simp only [MH, LH, AM.look]
        repeat (first | rw [if_neg (by omega)] | rw [if_pos trivial])
      · cases h) rfl hbp
  cases hbb : b with
  | true =>
    rw [hbb] at hlend
    refine ⟨L, 0, 304, tk, k, hS, ⟨Fwd.refl L, .inr rfl⟩, hm, ⟨hk, .inl rfl⟩, Nat.le_refl _, ?_⟩
    obtain ⟨RH, eRH⟩ : ∃ x : Heap, x = MH m tk L := ⟨_, rfl⟩; obtain ⟨RV, eRV⟩ : ∃ x : AVal, x = res2 0 304 := ⟨_, rfl⟩; refine Tr.mono (Tr_in (k := k) (V := RV) (RH := RH) (by omega) (by rw [eRV]; rfl) (by rw [eRH]; exact MH_lt (by omega) (by omega)) ?_) (fun _ _ _ h => ⟨h.1, h.2.1.trans eRV, h.2.2.trans eRH⟩)
    refine Tr_at Tryz.func38 rfl 67 rfl (Nat.le_of_ble_eq_true rfl) ?_
    simp only [MH, LH]
    have kp : Kp [0,1,3,4,5,6,7,13,22,25,34,47] (fun i => i - k) := kpI
    refine wlL ?_; refine zq1 ⟨⟨⟨?_⟩⟩⟩
    refine clL [.far (.lit (.bool true)) (k + 1) [(k, ⟨8, true, [opc o]⟩)] (MH m tk L) (MH m tk L)] ?_; refine zq3 ⟨⟨⟨?_⟩⟩⟩ ⟨⟨⟨?_⟩⟩⟩ ⟨⟨⟨?_⟩⟩⟩
    · intro q; simp only [MH, LH, mrow, opc, List.cons_append, List.nil_append]
    · exact MH_apart (fun i hi => by simp only [AM.look]; repeat (rw [if_neg (by omega)])) rfl
    simp only [MH, LH]
    refine rRL ?_; apply zN
    refine wlL ?_; refine zq1 ⟨fun ht => ⟨⟨?_⟩⟩⟩
    refine clL [.ret (.lit (.bool true))] ?_; refine zq1 ⟨⟨⟨?_⟩⟩⟩
    refine wlL ?_; refine zq1 ⟨fun ht => ⟨⟨?_⟩⟩⟩
    refine clL [.far (.lit (.int .i64 (i : Int))) (k + 1) [(k, ⟨8, true, [opc o]⟩)] (MH m tk L) (MH m tk L)] ?_; refine zq3 ⟨⟨⟨?_⟩⟩⟩ ⟨⟨⟨?_⟩⟩⟩ ⟨⟨⟨?_⟩⟩⟩
    · intro q; simp only [MH, LH, mrow, opc, List.cons_append, List.nil_append]
    · exact MH_apart (fun i hi => by simp only [AM.look]; repeat (rw [if_neg (by omega)])) rfl
    simp only [MH, LH]
    refine rRL ?_; apply zN
    have kp : Kp [0,1,3,4,5,6,7,13,22,25,34,47] (fun i => if k ≤ i then i - k + 1 else 0) := kpI
    refine wlL ?_; refine zq1 ⟨fun ht => ⟨⟨?_⟩⟩⟩
    refine dlL [.raw (some 33) ⟨.lit (.bool true), k + 1, [], [m + 3]⟩] ?_; refine zq2 ⟨⟨⟨?_⟩⟩⟩ ⟨⟨⟨?_⟩⟩⟩
    · exact hlend rfl (by kernel_rfl) rfl rfl
    refine wlL ?_; refine zq1 ⟨fun ht => ⟨⟨?_⟩⟩⟩
    have uU := Go.AM.uU; refine cRD ?_; apply zN
    refine ⟨?_, ?_⟩
    · rw [eRV]; rfl
    · rw [eRH]
      simp only [MH, LH]
      exact rRL hdT
  | false =>
    rw [hbb] at hlend
    have hnc : ∀ c, c < n → L.cur c ≠ o.task := fun c hc e => by have := hb.2 ⟨c, by omega, e⟩; rw [hbb] at this; cases this
    by_cases h5 : (L.tsk i).cpu = o.to
    · refine ⟨L, 0, 2, tk, k, hS, ⟨Fwd.refl L, .inr rfl⟩, hm, ⟨hk, .inl rfl⟩, Nat.le_refl _, ?_⟩
      obtain ⟨RH, eRH⟩ : ∃ x : Heap, x = MH m tk L := ⟨_, rfl⟩; obtain ⟨RV, eRV⟩ : ∃ x : AVal, x = res2 0 2 := ⟨_, rfl⟩; refine Tr.mono (Tr_in (k := k) (V := RV) (RH := RH) (by omega) (by rw [eRV]; rfl) (by rw [eRH]; exact MH_lt (by omega) (by omega)) ?_) (fun _ _ _ h => ⟨h.1, h.2.1.trans eRV, h.2.2.trans eRH⟩)
      refine Tr_at Tryz.func38 rfl 67 rfl (Nat.le_of_ble_eq_true rfl) ?_
      simp only [MH, LH]
      have kp : Kp [0,1,3,4,5,6,7,13,22,25,34,47] (fun i => if k ≤ i then i - k + 1 else 0) := kpI
      refine wlL ?_; refine zq1 ⟨⟨⟨?_⟩⟩⟩
      refine clL [.far (.lit (.bool true)) (k + 1) [(k, ⟨8, true, [opc o]⟩)] (MH m tk L) (MH m tk L)] ?_; refine zq3 ⟨⟨⟨?_⟩⟩⟩ ⟨⟨⟨?_⟩⟩⟩ ⟨⟨⟨?_⟩⟩⟩
      · intro q; simp only [MH, LH, mrow, opc, List.cons_append, List.nil_append]
      · exact MH_apart (fun i hi => by simp only [AM.look]; repeat (rw [if_neg (by omega)])) rfl
      simp only [MH, LH]
      refine rRL ?_; apply zN
      refine wlL ?_; refine zq1 ⟨fun ht => ⟨⟨?_⟩⟩⟩
      refine clL [.ret (.lit (.bool true))] ?_; refine zq1 ⟨⟨⟨?_⟩⟩⟩
      refine wlL ?_; refine zq1 ⟨fun ht => ⟨⟨?_⟩⟩⟩
      refine clL [.far (.lit (.int .i64 (i : Int))) (k + 1) [(k, ⟨8, true, [opc o]⟩)] (MH m tk L) (MH m tk L)] ?_; refine zq3 ⟨⟨⟨?_⟩⟩⟩ ⟨⟨⟨?_⟩⟩⟩ ⟨⟨⟨?_⟩⟩⟩
      · intro q; simp only [MH, LH, mrow, opc, List.cons_append, List.nil_append]
      · exact MH_apart (fun i hi => by simp only [AM.look]; repeat (rw [if_neg (by omega)])) rfl
      simp only [MH, LH]
      refine rRL ?_; apply zN
      refine wlL ?_; refine zq1 ⟨fun ht => ⟨⟨?_⟩⟩⟩
      refine dlL [.raw (some 33) ⟨.lit (.bool false), k + 1, [], [m + 3]⟩] ?_; refine zq2 ⟨⟨⟨?_⟩⟩⟩ ⟨⟨⟨?_⟩⟩⟩
      · exact hlend rfl (by kernel_rfl) rfl rfl
      refine wlL ?_; refine zq1 ⟨fun ht ht => ⟨⟨?_⟩⟩⟩
      have uU := Go.AM.uU; refine cRD ?_; apply zN
      refine ⟨?_, ?_⟩
      · rw [eRV]; rfl
      · rw [eRH]
        simp only [MH, LH]
        exact rRL hdT
    have hT := hS.tk i hi
    have hmb := mask_bit (x := (L.tsk i).mask) (c := o.to) hT.m0 hT.m1 h1.1 (by omega)
    have hneg : (o.to < 0) = False := eq_false (by omega)
    by_cases h6 : (L.tsk i).mask / 2 ^ o.to.toNat % 2 = 0
    · refine ⟨L, 0, 305, tk, k, hS, ⟨Fwd.refl L, .inr rfl⟩, hm, ⟨hk, .inl rfl⟩, Nat.le_refl _, ?_⟩
      obtain ⟨RH, eRH⟩ : ∃ x : Heap, x = MH m tk L := ⟨_, rfl⟩; obtain ⟨RV, eRV⟩ : ∃ x : AVal, x = res2 0 305 := ⟨_, rfl⟩; refine Tr.mono (Tr_in (k := k) (V := RV) (RH := RH) (by omega) (by rw [eRV]; rfl) (by rw [eRH]; exact MH_lt (by omega) (by omega)) ?_) (fun _ _ _ h => ⟨h.1, h.2.1.trans eRV, h.2.2.trans eRH⟩)
      refine Tr_at Tryz.func38 rfl 67 rfl (Nat.le_of_ble_eq_true rfl) ?_
      simp only [MH, LH]
      have kp : Kp [0,1,3,4,5,6,7,13,22,25,34,47] (fun i => if k ≤ i then i - k + 1 else 0) := kpI
      refine wlL ?_; refine zq1 ⟨⟨⟨?_⟩⟩⟩
      refine clL [.far (.lit (.bool true)) (k + 1) [(k, ⟨8, true, [opc o]⟩)] (MH m tk L) (MH m tk L)] ?_; refine zq3 ⟨⟨⟨?_⟩⟩⟩ ⟨⟨⟨?_⟩⟩⟩ ⟨⟨⟨?_⟩⟩⟩
      · intro q; simp only [MH, LH, mrow, opc, List.cons_append, List.nil_append]
      · exact MH_apart (fun i hi => by simp only [AM.look]; repeat (rw [if_neg (by omega)])) rfl
      simp only [MH, LH]
      refine rRL ?_; apply zN
      refine wlL ?_; refine zq1 ⟨fun ht => ⟨⟨?_⟩⟩⟩
      refine clL [.ret (.lit (.bool true))] ?_; refine zq1 ⟨⟨⟨?_⟩⟩⟩
      refine wlL ?_; refine zq1 ⟨fun ht => ⟨⟨?_⟩⟩⟩
      refine clL [.far (.lit (.int .i64 (i : Int))) (k + 1) [(k, ⟨8, true, [opc o]⟩)] (MH m tk L) (MH m tk L)] ?_; refine zq3 ⟨⟨⟨?_⟩⟩⟩ ⟨⟨⟨?_⟩⟩⟩ ⟨⟨⟨?_⟩⟩⟩
      · intro q; simp only [MH, LH, mrow, opc, List.cons_append, List.nil_append]
      · exact MH_apart (fun i hi => by simp only [AM.look]; repeat (rw [if_neg (by omega)])) rfl
      simp only [MH, LH]
      refine rRL ?_; apply zN
      refine wlL ?_; refine zq1 ⟨fun ht => ⟨⟨?_⟩⟩⟩
      refine dlL [.raw (some 33) ⟨.lit (.bool false), k + 1, [], [m + 3]⟩] ?_; refine zq2 ⟨⟨⟨?_⟩⟩⟩ ⟨⟨⟨?_⟩⟩⟩
      · exact hlend rfl (by kernel_rfl) rfl rfl
      refine wlL ?_; refine zq1 ⟨fun ht ht => ⟨⟨?_⟩⟩⟩
      have uU := zA @hneg @hmb
      refine wlL ?_; refine zq1 ⟨fun ht => ⟨⟨?_⟩⟩⟩
      have uU := zA @hneg @hmb; refine cRD ?_; apply zN
      refine ⟨?_, ?_⟩
      · rw [eRV]; rfl
      · rw [eRH]
        simp only [MH, LH]
        exact rRL hdT
    · obtain ⟨L', hL', hF', hmove⟩ := move L n hS i hi to (by omega) (by rw [hto] at h6; have := Int.emod_two_eq ((L.tsk i).mask / 2 ^ to); simp only [Int.toNat_natCast] at h6; omega) (fun c hc => by rw [hid]; exact hnc c hc) m tk (k + 1) hm (by omega) (Γ := Γ)
      have hLs := hF'.ns
      rw [← hto] at hmove
      refine ⟨L', 0, 0, tk, k, hL', ⟨hF', .inl rfl⟩, hm, ⟨hk, .inl rfl⟩, Nat.le_refl _, ?_⟩
      obtain ⟨RH, eRH⟩ : ∃ x : Heap, x = MH m tk L' := ⟨_, rfl⟩; obtain ⟨RV, eRV⟩ : ∃ x : AVal, x = res2 0 0 := ⟨_, rfl⟩; refine Tr.mono (Tr_in (k := k) (V := RV) (RH := RH) (by omega) (by rw [eRV]; rfl) (by rw [eRH]; exact MH_lt (by omega) (by omega)) ?_) (fun _ _ _ h => ⟨h.1, h.2.1.trans eRV, h.2.2.trans eRH⟩)
      refine Tr_at Tryz.func38 rfl 67 rfl (Nat.le_of_ble_eq_true rfl) ?_
      simp only [MH, LH]
      have kp : Kp [0,1,3,4,5,6,7,13,22,25,34,47] (fun i => if k ≤ i then i - k + 1 else 0) := kpI
      refine wlL ?_; refine zq1 ⟨⟨⟨?_⟩⟩⟩
      refine clL [.far (.lit (.bool true)) (k + 1) [(k, ⟨8, true, [opc o]⟩)] (MH m tk L) (MH m tk L)] ?_; refine zq3 ⟨⟨⟨?_⟩⟩⟩ ⟨⟨⟨?_⟩⟩⟩ ⟨⟨⟨?_⟩⟩⟩
      · intro q; simp only [MH, LH, mrow, opc, List.cons_append, List.nil_append]
      · exact MH_apart (fun i hi => by simp only [AM.look]; repeat (rw [if_neg (by omega)])) rfl
      simp only [MH, LH]
      refine rRL ?_; apply zN
      refine wlL ?_; refine zq1 ⟨fun ht => ⟨⟨?_⟩⟩⟩
      refine clL [.ret (.lit (.bool true))] ?_; refine zq1 ⟨⟨⟨?_⟩⟩⟩
      refine wlL ?_; refine zq1 ⟨fun ht => ⟨⟨?_⟩⟩⟩
      refine clL [.far (.lit (.int .i64 (i : Int))) (k + 1) [(k, ⟨8, true, [opc o]⟩)] (MH m tk L) (MH m tk L)] ?_; refine zq3 ⟨⟨⟨?_⟩⟩⟩ ⟨⟨⟨?_⟩⟩⟩ ⟨⟨⟨?_⟩⟩⟩
      · intro q; simp only [MH, LH, mrow, opc, List.cons_append, List.nil_append]
      · exact MH_apart (fun i hi => by simp only [AM.look]; repeat (rw [if_neg (by omega)])) rfl
      simp only [MH, LH]
      refine rRL ?_; apply zN
      refine wlL ?_; refine zq1 ⟨fun ht => ⟨⟨?_⟩⟩⟩
      refine dlL [.raw (some 33) ⟨.lit (.bool false), k + 1, [], [m + 3]⟩] ?_; refine zq2 ⟨⟨⟨?_⟩⟩⟩ ⟨⟨⟨?_⟩⟩⟩
      · exact hlend rfl (by kernel_rfl) rfl rfl
      refine wlL ?_; refine zq1 ⟨fun ht ht => ⟨⟨?_⟩⟩⟩
      have uU := zA @hneg @hmb
      refine wlL ?_; refine zq1 ⟨fun ht => ⟨⟨?_⟩⟩⟩
      refine clL [.far (.tup []) (k + 1) [(k, ⟨8, true, [opc o]⟩)] (MH m tk L) (MH m tk L')] ?_; refine zq3 ⟨⟨⟨?_⟩⟩⟩ ⟨⟨⟨?_⟩⟩⟩ ⟨⟨⟨?_⟩⟩⟩
      · intro q; simp only [MH, LH, mrow, opc, List.cons_append, List.nil_append]
      · exact MH_apart (fun i hi => by simp only [AM.look]; repeat (rw [if_neg (by omega)])) hF'.ns
      simp only [MH, LH]
      refine rRL ?_; apply zN
      refine wlL ?_; refine zq1 ⟨⟨⟨?_⟩⟩⟩
      have uU := zA @hneg @hmb; refine cRD ?_; apply zN
      refine ⟨?_, ?_⟩
      · rw [eRV]; rfl
      · rw [eRH]
        simp only [MH, LH]
        exact rRL hdT
end Go.Proofs.T
end
section
namespace Go.Proofs.T
open Go Go.AM Go.Proofs
set_option maxRecDepth 20000
variable {Γ : List (Nat × List AVal)}
attribute [go_sem] stc
theorem rows_one_of {α : Type} (l : List α) (f : α → List AVal) (h : ∀ x, (f x).all AM.one = true) : ((l.map f).all fun row => row.all AM.one) = true := by
  rw [List.all_eq_true]
  intro row hr
  simp only [List.mem_map] at hr
  obtain ⟨t, _, rfl⟩ := hr
  exact h t
theorem look_MH6 {m tk i : Nat} {L : LSt} (hm : m + 6 + L.sl.length ≤ tk) (hi : i < L.sl.length) : AM.look (MH m tk L) (m + (6 + i)) = some ⟨3, true, slR L i⟩ := by
  simp only [MH, LH, AM.look]
  repeat rw [if_neg (by omega)]
  exact look_fam6 hi
end Go.Proofs.T
end
section
namespace Go.Proofs.T
open Go Go.AM Go.Proofs
set_option maxRecDepth 20000
variable {Γ : List (Nat × List AVal)}
set_option maxHeartbeats 2000000 in
theorem ownI (n : Nat) (f : Nat → List AVal) (k : Nat) (hn0 : 0 < n) (hn2 : n ≤ 100000) (hone : (((List.range n).map f).all fun row => row.all AM.one) = true) :
    Tr Tryz.prog Γ 62 k [.rd 1 n f] [] (fun k1 r1 H1 => k1 = k + 2 ∧ r1 = .sl (k + 1) 0 n ∧ H1 = [(k + 1, ⟨1, true, (List.range n).map f⟩)]) := by
  obtain ⟨R, eR⟩ : ∃ R, R = (List.range n).map f := ⟨_, rfl⟩
  have hl : R.length = n := by rw [eR]; simp
  obtain ⟨RH, eRH⟩ : ∃ x : Heap, x = [(k + 1, ⟨1, true, R⟩)] := ⟨_, rfl⟩
  rw [← eR] at hone ⊢
  refine Tr.mono (Tr_in (kk := k + 2) (V := .sl (k + 1) 0 n) (RH := RH) (by omega) (by simp [bd, bd1, bd0, ltB]) (by rw [eRH]; exact bdH_cons1 (by simp only [ltB, decide_eq_true_eq]; omega) rfl) ?_) (fun _ _ _ h => ⟨h.1, h.2.1, h.2.2.trans eRH⟩)
  have hne : ¬ n = 0 := by omega
  have eR2 := eR.symm
  refine Tr_at Tryz.func62 rfl 8 rfl (Nat.le_of_ble_eq_true rfl) ?_
  have kp : Kp [0,2,4] (fun i => i - k) := kpI
  have uU := zA @hone (zA @hne (zA @hn0 @eR2))
  refine wlL ?_; refine zq1 ⟨fun ht => ⟨⟨?_⟩⟩⟩
  have uU := zA @hone (zA @hne (zA @hn0 @eR2)); refine cRD ?_; apply zN
  refine ⟨rfl, ?_⟩
  rw [eRH]
  exact rRL hdT
set_option maxHeartbeats 2000000 in
theorem ownG (n : Nat) (f : Nat → List AVal) (k : Nat) (hn0 : 0 < n) (hn2 : n ≤ 100000) (hone : (((List.range n).map f).all fun row => row.all AM.one) = true) :
    Tr Tryz.prog Γ 61 k [.rd 2 n f] [] (fun k1 r1 H1 => k1 = k + 2 ∧ r1 = .sl (k + 1) 0 n ∧ H1 = [(k + 1, ⟨2, true, (List.range n).map f⟩)]) := by
  obtain ⟨R, eR⟩ : ∃ R, R = (List.range n).map f := ⟨_, rfl⟩
  have hl : R.length = n := by rw [eR]; simp
  obtain ⟨RH, eRH⟩ : ∃ x : Heap, x = [(k + 1, ⟨2, true, R⟩)] := ⟨_, rfl⟩
  rw [← eR] at hone ⊢
  refine Tr.mono (Tr_in (kk := k + 2) (V := .sl (k + 1) 0 n) (RH := RH) (by omega) (by simp [bd, bd1, bd0, ltB]) (by rw [eRH]; exact bdH_cons1 (by simp only [ltB, decide_eq_true_eq]; omega) rfl) ?_) (fun _ _ _ h => ⟨h.1, h.2.1, h.2.2.trans eRH⟩)
  have hne : ¬ n = 0 := by omega
  have eR2 := eR.symm
  refine Tr_at Tryz.func61 rfl 8 rfl (Nat.le_of_ble_eq_true rfl) ?_
  have kp : Kp [0,2,4] (fun i => i - k) := kpI
  have uU := zA @hone (zA @hne (zA @hn0 @eR2))
  refine wlL ?_; refine zq1 ⟨fun ht => ⟨⟨?_⟩⟩⟩
  have uU := zA @hone (zA @hne (zA @hn0 @eR2)); refine cRD ?_; apply zN
  refine ⟨rfl, ?_⟩
  rw [eRH]
  exact rRL hdT
set_option maxHeartbeats 2000000 in
theorem ownS (n : Nat) (f : Nat → List AVal) (k : Nat) (hn0 : 0 < n) (hn2 : n ≤ 100000) (hone : (((List.range n).map f).all fun row => row.all AM.one) = true) :
    Tr Tryz.prog Γ 64 k [.rd 3 n f] [] (fun k1 r1 H1 => k1 = k + 2 ∧ r1 = .sl (k + 1) 0 n ∧ H1 = [(k + 1, ⟨3, true, (List.range n).map f⟩)]) := by
  obtain ⟨R, eR⟩ : ∃ R, R = (List.range n).map f := ⟨_, rfl⟩
  have hl : R.length = n := by rw [eR]; simp
  obtain ⟨RH, eRH⟩ : ∃ x : Heap, x = [(k + 1, ⟨3, true, R⟩)] := ⟨_, rfl⟩
  rw [← eR] at hone ⊢
  refine Tr.mono (Tr_in (kk := k + 2) (V := .sl (k + 1) 0 n) (RH := RH) (by omega) (by simp [bd, bd1, bd0, ltB]) (by rw [eRH]; exact bdH_cons1 (by simp only [ltB, decide_eq_true_eq]; omega) rfl) ?_) (fun _ _ _ h => ⟨h.1, h.2.1, h.2.2.trans eRH⟩)
  have hne : ¬ n = 0 := by omega
  have eR2 := eR.symm
  refine Tr_at Tryz.func64 rfl 8 rfl (Nat.le_of_ble_eq_true rfl) ?_
  have kp : Kp [0,2,4] (fun i => i - k) := kpI
  have uU := zA @hone (zA @hne (zA @hn0 @eR2))
  refine wlL ?_; refine zq1 ⟨fun ht => ⟨⟨?_⟩⟩⟩
  have uU := zA @hone (zA @hne (zA @hn0 @eR2)); refine cRD ?_; apply zN
  refine ⟨rfl, ?_⟩
  rw [eRH]
  exact rRL hdT
theorem ownN : AM.Pure Tryz.prog Γ 63 [.lit (.slice none 0 0)] (.lit (.slice none 0 0)) := by
  refine Pure_at Tryz.func63 rfl 8 rfl (Nat.le_of_ble_eq_true rfl) rfl fun k => ?_
  have kp : Kp [0,2,4] (fun i => i - k) := kpI
  refine wlL ?_; refine zq1 ⟨fun ht => ⟨⟨?_⟩⟩⟩
  refine C_ret rfl ⟨_, rfl, VLe.of_eq ?_⟩
  rfl
end Go.Proofs.T
end
