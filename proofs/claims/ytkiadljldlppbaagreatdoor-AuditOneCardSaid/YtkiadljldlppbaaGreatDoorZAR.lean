import Derived.Test.YtkiadljldlppbaaGreatDoorZAQ
set_option linter.unusedVariables false
set_option linter.unusedSimpArgs false
section
namespace Go.Proofs.T
open Go Go.AM Go.Proofs
set_option maxRecDepth 20000
variable {Γ : List (Nat × List AVal)}
theorem setH_acc {id s i : Nat} {l : List (List AVal)} {H : Heap} {B : Blk} (h : id ≠ i) : setH (accH id s l H) i B = accH id s l (setH H i B) := by
  cases l with
  | nil => rfl
  | cons a r => simp only [accH, setH]; rw [if_neg h]
theorem bd_accL {id k : Nat} {l : List (List AVal)} (h : id < k) : bd (ltB k) (accV id l) = true := bd_acc (by simp only [ltB, decide_eq_true_eq]; exact h)
theorem bdH_accL {id k s : Nat} {l : List (List AVal)} {H : Heap} (h : id < k) : bdH (ltB k) (accH id s l H) = bdH (ltB k) H := bdH_acc (by simp only [ltB, decide_eq_true_eq]; exact h)
attribute [go_sem] setH_acc bd_accL bdH_accL
set_option maxHeartbeats 16000000 in
theorem spawnS (L : LSt) (n : Nat) (hS : Rt0 L n) (o : Opn) (hl : L.tl.length < 1000) (hmk : 0 ≤ o.mask ∧ o.mask < 18446744073709551616) (m tk k : Nat) (hm : m + 6 + L.sl.length ≤ tk) (hk : tk < k) (c g : Nat) (hc : o.cpu = (c : Int)) (hgr : o.group = (g : Int)) (hcn : c < n) (hg1 : g < L.sl.length) (h2 : 1 ≤ o.task ∧ o.task ≤ 65535) (h4 : 1 ≤ o.weight ∧ o.weight ≤ 65536) (h5 : ¬ o.mask = 0) (h6 : o.mask / 2 ^ n = 0) (hr : FindIs L o.task (-1)) (h7 : o.mask / 2 ^ c % 2 = 1) : OpOk Γ 31 L n o m tk k := by
  have hnt := hS.nt
  have hcp := hS.cpus
  have hnu := hS.nu
  have hn1 := hS.n1
  have hn64 := hS.n64
  have hns := hS.ns
  have hng := hS.ng
  have hcpu := cpu L o.cpu m tk (k + 1) hm (by omega) (Γ := Γ)
  have htask := mtask o.task (Γ := Γ)
  have hwgh := mweighs o.weight (Γ := Γ)
  have hwide := mwide o.mask n hn1 hn64 hmk.1 hmk.2 (Γ := Γ)
  rw [← hcp] at hwide
  rw [decide_eq_true (by omega), hc] at hcpu
  rw [decide_eq_true h2] at htask
  have hrow := hS.rows g hg1
  rw [decide_eq_true h4] at hwgh
  rw [decide_eq_false (fun h => h h6)] at hwide
  have hfc := find L o.task (-1) hr hS.sorted (by omega) m tk (k + 1) hm (by omega) (Γ := Γ)
  have hmb : IntKind.u64.wrap ((BitVec.ofInt IntKind.u64.bits (o.mask.fdiv (2 ^ min c 64)) &&& BitVec.ofInt IntKind.u64.bits 1).toNat : Int) = o.mask / 2 ^ c % 2 := by
    have := mask_bit (x := o.mask) (c := (c : Int)) hmk.1 hmk.2 (by omega) (by omega)
    rwa [Int.toNat_natCast] at this
  have hneg : ((c : Int) < 0) = False := eq_false (by omega)
  have hsa := hS.sp g c hg1 hcn
  obtain ⟨T0, eT0⟩ : ∃ T : Tk, T = ⟨o.task, (g : Int), 0, (c : Int), o.mask, true, 0, 0⟩ := ⟨_, rfl⟩
  obtain ⟨T, eT⟩ : ∃ T : Tk, T = ⟨o.task, (g : Int), o.weight, (c : Int), o.mask, true, (L.sp g c).floor, 0⟩ := ⟨_, rfl⟩
  have hT : TkOk L n T := by
    rw [eT]
    exact ⟨h2.1, h2.2, by show (0 : Int) ≤ g; omega, by show (g : Int) < _; omega, by show (0 : Int) ≤ c; omega, by show (c : Int) < n; omega, ent_new h4.1 h4.2, hsa.2.2.2.2.1, hsa.2.2.2.2.2, Int.le_refl _, hmk.1, hmk.2, h6, by show o.mask / 2 ^ ((c : Int)).toNat % 2 = 1; rw [Int.toNat_natCast]; exact h7⟩
  have hTid : T.id = o.task := by rw [eT]
  obtain ⟨p, hp⟩ := posGt_ex hS.sorted (id := T.id) (fun i hi e => by
    rcases hr with ⟨_, h⟩ | ⟨j, _, h, _⟩
    · exact h i hi (by rw [e, hTid])
    · omega)
  obtain ⟨hN, hNF⟩ := ins_ok hS hp hT hl
  obtain ⟨E, eE⟩ : ∃ E, E = emptyF L L.sl.length g c := ⟨_, rfl⟩
  have hE1 : ∀ x, x ∈ E → 0 < x ∧ x < L.sl.length := by rw [eE]; exact emptyF_mem hS hg1
  have hE2 : E.length ≤ g := by rw [eE]; exact emptyF_len hS hg1
  have hemp := empty L n c g hS hcn hg1 E eE m tk (k + 1) hm (by omega) (Γ := Γ)
  have hwk := hN.wake hcn (l := E) hE1
  have hplen := hp.1
  obtain ⟨r, er⟩ : ∃ r : Int, r = if p < L.tl.length then (p : Int) else -1 := ⟨_, rfl⟩
  have hidx := indexF L T p hp (by omega) r er tk (k + 2) (k + 4) (by omega) (by omega) (by omega) (Γ := Γ)
  have hTc : tkc T = [.lit (.int .i64 o.task), .lit (.int .i64 (g : Int)), .lit (.int .i64 o.weight), .lit (.int .i64 (c : Int)), .lit (.int .u64 o.mask), .lit (.bool true), .lit (.int .u64 (L.sp g c).floor), .lit (.int .u32 0)] := by rw [eT]; rfl
  have hT0c : tkc T0 = [.lit (.int .i64 o.task), .lit (.int .i64 (g : Int)), .lit (.int .i64 0), .lit (.int .i64 (c : Int)), .lit (.int .u64 o.mask), .lit (.bool true), .lit (.int .u64 0), .lit (.int .u32 0)] := by rw [eT0]; rfl
  have hput := mput T0 (L.sp g c).floor 0 o.weight [tkc T0] (k + 2) 0 rfl (by omega) (by omega) (k + 4) (by omega) (Γ := Γ)
  rw [show [tkc T0].set 0 (tkc { T0 with v := (L.sp g c).floor, r := 0, weight := o.weight }) = [tkc T] by rw [eT0, eT]; rfl] at hput
  have hsin := sinsert (tlR L) (tkc T) L.tl.length p tk (k + 4) (k + 5) (tlR_len _) hplen (by omega) (tlR_one _) rfl (by omega) (by omega) (by omega) (Γ := Γ)
  rw [hTc] at hidx hput hsin
  rw [hT0c] at hput
  obtain ⟨Nx, eN⟩ : ∃ Nx, Nx = L.ins p T := ⟨_, rfl⟩
  have eMH := MH_ins (m := m) (tk := k + 5) (L := L) (T := T) hplen
  rw [hTc, ← eN] at eMH
  rw [← eN] at hN hNF hwk
  have hNs : Nx.sl.length = L.sl.length := hNF.ns
  have hwc := wake Nx n c hN hcn E (fun x hx => by rw [hNs]; exact hE1 x hx) (by omega) m (k + 5) (k + 6) (k + 7) (by omega) (by omega) (by omega) (Γ := Γ)
  have hWs : (wakeL Nx c E).sl.length = L.sl.length := by rw [hwk.2.1.ns, hNs]
  refine ⟨wakeL Nx c E, 0, 0, k + 5, k + 7, hwk.1, ⟨hNF.trans hwk.2.1 (.inl (by rw [hwk.2.2])), .inl rfl⟩, by omega, ⟨by omega, .inr (by omega)⟩, by omega, ?_⟩
  obtain ⟨RH, eRH⟩ : ∃ x : Heap, x = MH m (k + 5) (wakeL Nx c E) := ⟨_, rfl⟩
  obtain ⟨RV, eRV⟩ : ∃ x : AVal, x = res2 0 0 := ⟨_, rfl⟩
  refine Tr.mono (Tr_in (kk := k + 7) (V := RV) (RH := RH) (by omega) (by rw [eRV]; rfl) (by rw [eRH]; exact MH_lt (by omega) (by omega)) ?_) (fun _ _ _ h => ⟨h.1, h.2.1.trans eRV, h.2.2.trans eRH⟩)
  refine Tr_at Tryz.func31 rfl 139 rfl (Nat.le_of_ble_eq_true rfl) ?_
  simp only [MH, LH]
  have kp : Kp [0,1,3,4,5,6,7,8,9,11,15,21,26,40,60,66,117] (fun i => if k ≤ i then i - k + 1 else 0) := kpI
  have uU := zA @hc @hgr
  refine wlL ?_; refine zq1 ⟨⟨⟨?_⟩⟩⟩
  refine clL [.far (.lit (.bool true)) (k + 1) [(k, ⟨8, true, [opc o]⟩)] (MH m tk L) (MH m tk L)] ?_; refine zq3 ⟨⟨⟨?_⟩⟩⟩ ⟨⟨⟨?_⟩⟩⟩ ⟨⟨⟨?_⟩⟩⟩
  · intro q; simp only [MH, LH, mrow, opc, hc, hgr, List.cons_append, List.nil_append]
  · exact MH_apart (fun i hi => by simp only [AM.look]; repeat (rw [if_neg (by omega)])) rfl
  simp only [MH, LH]
  refine rRL ?_; apply zN
  refine wlL ?_; refine zq1 ⟨fun ht => ⟨⟨?_⟩⟩⟩
  refine clL [.ret (.lit (.bool true))] ?_; refine zq1 ⟨⟨⟨?_⟩⟩⟩
  refine wlL ?_; refine zq1 ⟨fun ht ht => ⟨fun hg => ⟨?_⟩⟩⟩
  refine dlL [.ret (.lit (.bool true)), .ret (.lit (.bool false))] ?_; refine zq1 ⟨⟨fun hg => ⟨?_⟩⟩⟩
  all_goals (try (exact absurd trivial ‹¬ True›))
  refine wlL ?_; refine zq1 ⟨fun ht => ⟨⟨?_⟩⟩⟩
  refine clL [.far (.lit (.int .i64 (-1))) (k + 1) [(k, ⟨8, true, [opc o]⟩)] (MH m tk L) (MH m tk L)] ?_; refine zq3 ⟨⟨⟨?_⟩⟩⟩ ⟨⟨⟨?_⟩⟩⟩ ⟨⟨⟨?_⟩⟩⟩
  · intro q; simp only [MH, LH, mrow, opc, hc, hgr, List.cons_append, List.nil_append]
  · exact MH_apart (fun i hi => by simp only [AM.look]; repeat (rw [if_neg (by omega)])) rfl
  simp only [MH, LH]
  refine rRL ?_; apply zN
  have uU := zA @hc (zA @hgr (zA @hmb (zA @hneg @hrow)))
  refine wlL ?_; refine zq1 ⟨fun ht ht => ⟨⟨?_⟩⟩⟩
  refine clL [.far (accV (k + 1) (gR E)) (k + 2) [(k, ⟨8, true, [opc o]⟩)] (MH m tk L) (accH (k + 1) 1 (gR E) (MH m tk L))] ?_; refine zq3 ⟨⟨⟨?_⟩⟩⟩ ⟨⟨⟨?_⟩⟩⟩ ⟨⟨⟨?_⟩⟩⟩
  · intro q; simp only [MH, LH, mrow, opc, hc, hgr, List.cons_append, List.nil_append]
  · exact apart_accR (by simp only [AM.look]; rw [if_neg (by omega)]) (MH_apart (fun i hi => by simp only [AM.look]; rw [if_neg (by omega)]) rfl)
  simp only [MH, LH]
  refine rRL ?_; apply zN
  refine wlL ?_; refine zq1 ⟨⟨⟨?_⟩⟩⟩
  refine dlL [.ret (.tup [enc (L.sp g c).floor 0 o.weight, .lit (.int .i64 0)])] ?_; refine zq2 ⟨⟨⟨?_⟩⟩⟩ ⟨⟨⟨?_⟩⟩⟩
  · exact pnew _ _ h4.1 h4.2
  refine wlL ?_; refine zq1 ⟨⟨⟨?_⟩⟩⟩
  refine clL [.gen (.tup []) (k + 4) [(k + 2, ⟨8, true, [[.lit (.int .i64 o.task), .lit (.int .i64 (g : Int)), .lit (.int .i64 0), .lit (.int .i64 (c : Int)), .lit (.int .u64 o.mask), .lit (.bool true), .lit (.int .u64 0), .lit (.int .u32 0)]]⟩)] [(k + 2, ⟨8, true, [[.lit (.int .i64 o.task), .lit (.int .i64 (g : Int)), .lit (.int .i64 o.weight), .lit (.int .i64 (c : Int)), .lit (.int .u64 o.mask), .lit (.bool true), .lit (.int .u64 (L.sp g c).floor), .lit (.int .u32 0)]]⟩)]] ?_; refine zq1 ⟨⟨⟨?_⟩⟩⟩
  refine wlL ?_; refine zq1 ⟨⟨⟨?_⟩⟩⟩
  by_cases hpl : p < L.tl.length
  · rw [if_pos hpl] at er
    rw [er] at hidx
    refine clL [.gen (.lit (.int .i64 (p : Int))) (k + 4) [(tk, ⟨8, true, tlR L⟩), (k + 2, ⟨8, true, [[.lit (.int .i64 o.task), .lit (.int .i64 (g : Int)), .lit (.int .i64 o.weight), .lit (.int .i64 (c : Int)), .lit (.int .u64 o.mask), .lit (.bool true), .lit (.int .u64 (L.sp g c).floor), .lit (.int .u32 0)]]⟩)] [(tk, ⟨8, true, tlR L⟩), (k + 2, ⟨8, true, [[.lit (.int .i64 o.task), .lit (.int .i64 (g : Int)), .lit (.int .i64 o.weight), .lit (.int .i64 (c : Int)), .lit (.int .u64 o.mask), .lit (.bool true), .lit (.int .u64 (L.sp g c).floor), .lit (.int .u32 0)]]⟩)]] ?_; refine zq1 ⟨⟨⟨?_⟩⟩⟩
    refine wlL ?_; refine zq1 ⟨fun ht => ⟨⟨?_⟩⟩⟩
    refine M_cutO [0,1,3,4,5,6,7,8,9,11,15,21,26,40,60,66,117] (k + 7) [(7, accV (k + 6) (gR E))] ((k, ⟨8, true, [opc o]⟩) :: accH (k + 6) 1 (gR E) (MH m (k + 5) Nx)) ?_ ?_
    · have kp : Kp [0,1,3,4,5,6,7,8,9,11,15,21,26,40,60,66,117] (fun i => if i = tk then 1 else if k ≤ i then i - k + 2 else 0) := kpI
      refine dlL [.gen (.sl (k + 5) 0 (L.tl.length + 1)) (k + 6) [(tk, ⟨8, true, tlR L⟩), (k + 4, ⟨8, true, [[.lit (.int .i64 o.task), .lit (.int .i64 (g : Int)), .lit (.int .i64 o.weight), .lit (.int .i64 (c : Int)), .lit (.int .u64 o.mask), .lit (.bool true), .lit (.int .u64 (L.sp g c).floor), .lit (.int .u32 0)]]⟩)] [(k + 5, ⟨8, true, insR (tlR L) p [.lit (.int .i64 o.task), .lit (.int .i64 (g : Int)), .lit (.int .i64 o.weight), .lit (.int .i64 (c : Int)), .lit (.int .u64 o.mask), .lit (.bool true), .lit (.int .u64 (L.sp g c).floor), .lit (.int .u32 0)]⟩)]] ?_; refine zq1 ⟨⟨⟨?_⟩⟩⟩
      rw [eMH]
      exact Mv.trans (Mv.fresh (k + 1) (by omega)) (Mv.wk wgD)
    have kp : Kp [0,1,3,4,5,6,7,8,9,11,15,21,26,40,60,66,117] (fun i => if i = tk then 1 else if k ≤ i then i - k + 2 else 0) := kpI
    refine wlL ?_; refine zq1 ⟨⟨⟨?_⟩⟩⟩
    refine clL [.far (.tup []) (k + 7) [(k, ⟨8, true, [opc o]⟩)] (accH (k + 6) 1 (gR E) (MH m (k + 5) Nx)) (accH (k + 6) 1 (gR E) (MH m (k + 5) (wakeL Nx c E)))] ?_; refine zq5 ⟨⟨⟨?_⟩⟩⟩ ⟨⟨⟨?_⟩⟩⟩ ⟨⟨⟨?_⟩⟩⟩ ⟨⟨⟨?_⟩⟩⟩ ⟨⟨⟨?_⟩⟩⟩
    · exact bd_accK (by rw [accIs_self]; trivial)
    · exact accH_keyB MH_keyB
    · intro q; simp only [opc, hc, hgr, List.cons_append, List.nil_append]
    · exact apart_acc (by simp only [AM.look]; rw [if_neg (by omega)]) (MH_apart (fun q hq => by simp only [AM.look]; rw [if_neg (by omega)]) (by rw [hWs, hNs]))
    refine wlL ?_; refine zq1 ⟨⟨⟨?_⟩⟩⟩
    have uU := zA @hc (zA @hgr (zA @hmb (zA @hneg @hrow))); refine cRD ?_; apply zN
    refine ⟨?_, ?_⟩
    · rw [eRV]; rfl
    · rw [eRH]
      simp only [MH, LH]
      exact rRL hdT
  · rw [if_neg hpl] at er
    rw [er] at hidx
    have hpe : p = L.tl.length := by omega
    refine clL [.gen (.lit (.int .i64 (-1))) (k + 4) [(tk, ⟨8, true, tlR L⟩), (k + 2, ⟨8, true, [[.lit (.int .i64 o.task), .lit (.int .i64 (g : Int)), .lit (.int .i64 o.weight), .lit (.int .i64 (c : Int)), .lit (.int .u64 o.mask), .lit (.bool true), .lit (.int .u64 (L.sp g c).floor), .lit (.int .u32 0)]]⟩)] [(tk, ⟨8, true, tlR L⟩), (k + 2, ⟨8, true, [[.lit (.int .i64 o.task), .lit (.int .i64 (g : Int)), .lit (.int .i64 o.weight), .lit (.int .i64 (c : Int)), .lit (.int .u64 o.mask), .lit (.bool true), .lit (.int .u64 (L.sp g c).floor), .lit (.int .u32 0)]]⟩)]] ?_; refine zq1 ⟨⟨⟨?_⟩⟩⟩
    refine wlL ?_; refine zq1 ⟨fun ht => ⟨⟨?_⟩⟩⟩
    rw [show ((L.tl.length : Nat) : Int) = (p : Int) by omega]
    refine M_cutO [0,1,3,4,5,6,7,8,9,11,15,21,26,40,60,66,117] (k + 7) [(7, accV (k + 6) (gR E))] ((k, ⟨8, true, [opc o]⟩) :: accH (k + 6) 1 (gR E) (MH m (k + 5) Nx)) ?_ ?_
    · have kp : Kp [0,1,3,4,5,6,7,8,9,11,15,21,26,40,60,66,117] (fun i => if i = tk then 1 else if k ≤ i then i - k + 2 else 0) := kpI
      refine dlL [.gen (.sl (k + 5) 0 (L.tl.length + 1)) (k + 6) [(tk, ⟨8, true, tlR L⟩), (k + 4, ⟨8, true, [[.lit (.int .i64 o.task), .lit (.int .i64 (g : Int)), .lit (.int .i64 o.weight), .lit (.int .i64 (c : Int)), .lit (.int .u64 o.mask), .lit (.bool true), .lit (.int .u64 (L.sp g c).floor), .lit (.int .u32 0)]]⟩)] [(k + 5, ⟨8, true, insR (tlR L) p [.lit (.int .i64 o.task), .lit (.int .i64 (g : Int)), .lit (.int .i64 o.weight), .lit (.int .i64 (c : Int)), .lit (.int .u64 o.mask), .lit (.bool true), .lit (.int .u64 (L.sp g c).floor), .lit (.int .u32 0)]⟩)]] ?_; refine zq1 ⟨⟨⟨?_⟩⟩⟩
      rw [eMH]
      exact Mv.trans (Mv.fresh (k + 1) (by omega)) (Mv.wk wgD)
    have kp : Kp [0,1,3,4,5,6,7,8,9,11,15,21,26,40,60,66,117] (fun i => if i = tk then 1 else if k ≤ i then i - k + 2 else 0) := kpI
    refine wlL ?_; refine zq1 ⟨⟨⟨?_⟩⟩⟩
    refine clL [.far (.tup []) (k + 7) [(k, ⟨8, true, [opc o]⟩)] (accH (k + 6) 1 (gR E) (MH m (k + 5) Nx)) (accH (k + 6) 1 (gR E) (MH m (k + 5) (wakeL Nx c E)))] ?_; refine zq5 ⟨⟨⟨?_⟩⟩⟩ ⟨⟨⟨?_⟩⟩⟩ ⟨⟨⟨?_⟩⟩⟩ ⟨⟨⟨?_⟩⟩⟩ ⟨⟨⟨?_⟩⟩⟩
    · exact bd_accK (by rw [accIs_self]; trivial)
    · exact accH_keyB MH_keyB
    · intro q; simp only [opc, hc, hgr, List.cons_append, List.nil_append]
    · exact apart_acc (by simp only [AM.look]; rw [if_neg (by omega)]) (MH_apart (fun q hq => by simp only [AM.look]; rw [if_neg (by omega)]) (by rw [hWs, hNs]))
    refine wlL ?_; refine zq1 ⟨⟨⟨?_⟩⟩⟩
    have uU := zA @hc (zA @hgr (zA @hmb (zA @hneg @hrow))); refine cRD ?_; apply zN
    refine ⟨?_, ?_⟩
    · rw [eRV]; rfl
    · rw [eRH]
      simp only [MH, LH]
      exact rRL hdT
set_option maxHeartbeats 16000000 in
theorem spawn (L : LSt) (n : Nat) (hS : Rt0 L n) (o : Opn) (hl : L.tl.length < 1000) (hmk : 0 ≤ o.mask ∧ o.mask < 18446744073709551616) (m tk k : Nat) (hm : m + 6 + L.sl.length ≤ tk) (hk : tk < k) : OpOk Γ 31 L n o m tk k := by
  have hnt := hS.nt
  have hcp := hS.cpus
  have hnu := hS.nu
  have hn1 := hS.n1
  have hn64 := hS.n64
  have hns := hS.ns
  have hng := hS.ng
  have hcpu := cpu L o.cpu m tk (k + 1) hm (by omega) (Γ := Γ)
  have htask := mtask o.task (Γ := Γ)
  have hwgh := mweighs o.weight (Γ := Γ)
  have hwide := mwide o.mask n hn1 hn64 hmk.1 hmk.2 (Γ := Γ)
  rw [← hcp] at hwide
  by_cases h1 : 0 ≤ o.cpu ∧ o.cpu < L.cpus
  rotate_left
  · rw [decide_eq_false h1] at hcpu
    refine ⟨L, 0, 300, tk, k, hS, ⟨Fwd.refl L, .inr rfl⟩, hm, ⟨hk, .inl rfl⟩, Nat.le_refl _, ?_⟩
    obtain ⟨RH, eRH⟩ : ∃ x : Heap, x = MH m tk L := ⟨_, rfl⟩; obtain ⟨RV, eRV⟩ : ∃ x : AVal, x = res2 (0) 300 := ⟨_, rfl⟩; refine Tr.mono (Tr_in (k := k) (V := RV) (RH := RH) (by omega) (by rw [eRV]; rfl) (by rw [eRH]; exact MH_lt (by omega) (by omega)) ?_) (fun _ _ _ h => ⟨h.1, h.2.1.trans eRV, h.2.2.trans eRH⟩)
    refine Tr_at Tryz.func31 rfl 139 rfl (Nat.le_of_ble_eq_true rfl) ?_
    simp only [MH, LH]
    have kp : Kp [0,1,3,4,5,6,7,8,9,11,15,21,26,40,60,66,117] (fun i => if k ≤ i then i - k + 1 else 0) := kpI
    refine wlL ?_; refine zq1 ⟨⟨⟨?_⟩⟩⟩
    refine clL [.far (.lit (.bool false)) (k + 1) [(k, ⟨8, true, [opc o]⟩)] (MH m tk L) (MH m tk L)] ?_; refine zq3 ⟨⟨⟨?_⟩⟩⟩ ⟨⟨⟨?_⟩⟩⟩ ⟨⟨⟨?_⟩⟩⟩
    · intro q; simp only [MH, LH, mrow, opc, List.cons_append, List.nil_append]
    · exact MH_apart (fun i hi => by simp only [AM.look]; repeat (rw [if_neg (by omega)])) rfl
    simp only [MH, LH]
    refine rRL ?_; apply zN
    refine wlL ?_; refine zq1 ⟨fun ht => ⟨⟨?_⟩⟩⟩
    have uU := Go.AM.uU; refine cRD ?_; apply zN
    refine ⟨?_, ?_⟩
    · rw [eRV]; rfl
    · rw [eRH]
      simp only [MH, LH]
      exact rRL hdT
  rw [decide_eq_true h1] at hcpu
  obtain ⟨c, hc⟩ : ∃ c : Nat, o.cpu = (c : Int) := ⟨o.cpu.toNat, by omega⟩
  rw [hc] at hcpu
  have hcn : c < n := by omega
  by_cases h2 : 1 ≤ o.task ∧ o.task ≤ 65535
  rotate_left
  · rw [decide_eq_false h2] at htask
    refine ⟨L, 0, 301, tk, k, hS, ⟨Fwd.refl L, .inr rfl⟩, hm, ⟨hk, .inl rfl⟩, Nat.le_refl _, ?_⟩
    obtain ⟨RH, eRH⟩ : ∃ x : Heap, x = MH m tk L := ⟨_, rfl⟩; obtain ⟨RV, eRV⟩ : ∃ x : AVal, x = res2 (0) 301 := ⟨_, rfl⟩; refine Tr.mono (Tr_in (k := k) (V := RV) (RH := RH) (by omega) (by rw [eRV]; rfl) (by rw [eRH]; exact MH_lt (by omega) (by omega)) ?_) (fun _ _ _ h => ⟨h.1, h.2.1.trans eRV, h.2.2.trans eRH⟩)
    refine Tr_at Tryz.func31 rfl 139 rfl (Nat.le_of_ble_eq_true rfl) ?_
    simp only [MH, LH]
    have kp : Kp [0,1,3,4,5,6,7,8,9,11,15,21,26,40,60,66,117] (fun i => if k ≤ i then i - k + 1 else 0) := kpI
    have uU := @hc
    refine wlL ?_; refine zq1 ⟨⟨⟨?_⟩⟩⟩
    refine clL [.far (.lit (.bool true)) (k + 1) [(k, ⟨8, true, [opc o]⟩)] (MH m tk L) (MH m tk L)] ?_; refine zq3 ⟨⟨⟨?_⟩⟩⟩ ⟨⟨⟨?_⟩⟩⟩ ⟨⟨⟨?_⟩⟩⟩
    · intro q; simp only [MH, LH, mrow, opc, hc, List.cons_append, List.nil_append]
    · exact MH_apart (fun i hi => by simp only [AM.look]; repeat (rw [if_neg (by omega)])) rfl
    simp only [MH, LH]
    refine rRL ?_; apply zN
    refine wlL ?_; refine zq1 ⟨fun ht => ⟨⟨?_⟩⟩⟩
    refine clL [.ret (.lit (.bool false))] ?_; refine zq1 ⟨⟨⟨?_⟩⟩⟩
    refine wlL ?_; refine zq1 ⟨fun ht => ⟨⟨?_⟩⟩⟩
    have uU := @hc; refine cRD ?_; apply zN
    refine ⟨?_, ?_⟩
    · rw [eRV]; rfl
    · rw [eRH]
      simp only [MH, LH]
      exact rRL hdT
  rw [decide_eq_true h2] at htask
  by_cases h3 : 0 ≤ o.group ∧ o.group < L.sl.length
  rotate_left
  · refine ⟨L, 0, 302, tk, k, hS, ⟨Fwd.refl L, .inr rfl⟩, hm, ⟨hk, .inl rfl⟩, Nat.le_refl _, ?_⟩
    obtain ⟨RH, eRH⟩ : ∃ x : Heap, x = MH m tk L := ⟨_, rfl⟩; obtain ⟨RV, eRV⟩ : ∃ x : AVal, x = res2 (0) 302 := ⟨_, rfl⟩; refine Tr.mono (Tr_in (k := k) (V := RV) (RH := RH) (by omega) (by rw [eRV]; rfl) (by rw [eRH]; exact MH_lt (by omega) (by omega)) ?_) (fun _ _ _ h => ⟨h.1, h.2.1.trans eRV, h.2.2.trans eRH⟩)
    refine Tr_at Tryz.func31 rfl 139 rfl (Nat.le_of_ble_eq_true rfl) ?_
    simp only [MH, LH]
    have kp : Kp [0,1,3,4,5,6,7,8,9,11,15,21,26,40,60,66,117] (fun i => if k ≤ i then i - k + 1 else 0) := kpI
    have uU := @hc
    refine wlL ?_; refine zq1 ⟨⟨⟨?_⟩⟩⟩
    refine clL [.far (.lit (.bool true)) (k + 1) [(k, ⟨8, true, [opc o]⟩)] (MH m tk L) (MH m tk L)] ?_; refine zq3 ⟨⟨⟨?_⟩⟩⟩ ⟨⟨⟨?_⟩⟩⟩ ⟨⟨⟨?_⟩⟩⟩
    · intro q; simp only [MH, LH, mrow, opc, hc, List.cons_append, List.nil_append]
    · exact MH_apart (fun i hi => by simp only [AM.look]; repeat (rw [if_neg (by omega)])) rfl
    simp only [MH, LH]
    refine rRL ?_; apply zN
    refine wlL ?_; refine zq1 ⟨fun ht => ⟨⟨?_⟩⟩⟩
    refine clL [.ret (.lit (.bool true))] ?_; refine zq1 ⟨⟨⟨?_⟩⟩⟩
    refine wlL ?_; refine zq2 ⟨fun ht ht => ⟨fun hg => ⟨?_⟩⟩⟩ ⟨fun ht ht => ⟨fun hg => ⟨?_⟩⟩⟩
    all_goals (first | (exfalso; omega) | skip)
    iterate 2
      · have uU := @hc; refine cRD ?_; apply zN
        refine ⟨?_, ?_⟩
        · rw [eRV]; rfl
        · rw [eRH]
          simp only [MH, LH]
          exact rRL hdT
  obtain ⟨g, hgr⟩ : ∃ g : Nat, o.group = (g : Int) := ⟨o.group.toNat, by omega⟩
  have hg1 : g < L.sl.length := by omega
  have hrow := hS.rows g hg1
  have hO : opc o = [.lit (.int .u8 o.kind), .lit (.int .i64 (c : Int)), .lit (.int .i64 o.task), .lit (.int .i64 (g : Int)), .lit (.int .i64 o.weight), .lit (.int .i64 o.to), .lit (.int .i64 o.ticks), .lit (.int .u64 o.mask)] := by rw [← hc, ← hgr]; rfl
  by_cases h4 : 1 ≤ o.weight ∧ o.weight ≤ 65536
  rotate_left
  · rw [decide_eq_false h4] at hwgh
    refine ⟨L, 0, 2, tk, k, hS, ⟨Fwd.refl L, .inr rfl⟩, hm, ⟨hk, .inl rfl⟩, Nat.le_refl _, ?_⟩
    obtain ⟨RH, eRH⟩ : ∃ x : Heap, x = MH m tk L := ⟨_, rfl⟩; obtain ⟨RV, eRV⟩ : ∃ x : AVal, x = res2 (0) 2 := ⟨_, rfl⟩; refine Tr.mono (Tr_in (k := k) (V := RV) (RH := RH) (by omega) (by rw [eRV]; rfl) (by rw [eRH]; exact MH_lt (by omega) (by omega)) ?_) (fun _ _ _ h => ⟨h.1, h.2.1.trans eRV, h.2.2.trans eRH⟩)
    refine Tr_at Tryz.func31 rfl 139 rfl (Nat.le_of_ble_eq_true rfl) ?_
    simp only [MH, LH]
    have kp : Kp [0,1,3,4,5,6,7,8,9,11,15,21,26,40,60,66,117] (fun i => if k ≤ i then i - k + 1 else 0) := kpI
    have uU := zA @hc @hgr
    refine wlL ?_; refine zq1 ⟨⟨⟨?_⟩⟩⟩
    refine clL [.far (.lit (.bool true)) (k + 1) [(k, ⟨8, true, [opc o]⟩)] (MH m tk L) (MH m tk L)] ?_; refine zq3 ⟨⟨⟨?_⟩⟩⟩ ⟨⟨⟨?_⟩⟩⟩ ⟨⟨⟨?_⟩⟩⟩
    · intro q; simp only [MH, LH, mrow, opc, hc, hgr, List.cons_append, List.nil_append]
    · exact MH_apart (fun i hi => by simp only [AM.look]; repeat (rw [if_neg (by omega)])) rfl
    simp only [MH, LH]
    refine rRL ?_; apply zN
    refine wlL ?_; refine zq1 ⟨fun ht => ⟨⟨?_⟩⟩⟩
    refine clL [.ret (.lit (.bool true))] ?_; refine zq1 ⟨⟨⟨?_⟩⟩⟩
    refine wlL ?_; refine zq1 ⟨fun ht ht => ⟨fun hg => ⟨?_⟩⟩⟩
    refine dlL [.ret (.lit (.bool false)), .ret (.lit (.bool true))] ?_; refine zq1 ⟨⟨⟨?_⟩⟩⟩
    refine wlL ?_; refine zq1 ⟨fun ht => ⟨⟨?_⟩⟩⟩
    have uU := zA @hc @hgr; refine cRD ?_; apply zN
    refine ⟨?_, ?_⟩
    · rw [eRV]; rfl
    · rw [eRH]
      simp only [MH, LH]
      exact rRL hdT
  rw [decide_eq_true h4] at hwgh
  by_cases h5 : o.mask = 0
  · refine ⟨L, 0, 2, tk, k, hS, ⟨Fwd.refl L, .inr rfl⟩, hm, ⟨hk, .inl rfl⟩, Nat.le_refl _, ?_⟩
    obtain ⟨RH, eRH⟩ : ∃ x : Heap, x = MH m tk L := ⟨_, rfl⟩; obtain ⟨RV, eRV⟩ : ∃ x : AVal, x = res2 (0) 2 := ⟨_, rfl⟩; refine Tr.mono (Tr_in (k := k) (V := RV) (RH := RH) (by omega) (by rw [eRV]; rfl) (by rw [eRH]; exact MH_lt (by omega) (by omega)) ?_) (fun _ _ _ h => ⟨h.1, h.2.1.trans eRV, h.2.2.trans eRH⟩)
    refine Tr_at Tryz.func31 rfl 139 rfl (Nat.le_of_ble_eq_true rfl) ?_
    simp only [MH, LH]
    have kp : Kp [0,1,3,4,5,6,7,8,9,11,15,21,26,40,60,66,117] (fun i => if k ≤ i then i - k + 1 else 0) := kpI
    have uU := zA @hc (zA @hgr @h5)
    refine wlL ?_; refine zq1 ⟨⟨⟨?_⟩⟩⟩
    refine clL [.far (.lit (.bool true)) (k + 1) [(k, ⟨8, true, [opc o]⟩)] (MH m tk L) (MH m tk L)] ?_; refine zq3 ⟨⟨⟨?_⟩⟩⟩ ⟨⟨⟨?_⟩⟩⟩ ⟨⟨⟨?_⟩⟩⟩
    · intro q; simp only [MH, LH, mrow, opc, hc, hgr, List.cons_append, List.nil_append]
    · exact MH_apart (fun i hi => by simp only [AM.look]; repeat (rw [if_neg (by omega)])) rfl
    simp only [MH, LH]
    refine rRL ?_; apply zN
    refine wlL ?_; refine zq1 ⟨fun ht => ⟨⟨?_⟩⟩⟩
    refine clL [.ret (.lit (.bool true))] ?_; refine zq1 ⟨⟨⟨?_⟩⟩⟩
    refine wlL ?_; refine zq1 ⟨fun ht ht => ⟨fun hg => ⟨?_⟩⟩⟩
    refine dlL [.ret (.lit (.bool true)), .ret (.lit (.bool true))] ?_; refine zq1 ⟨⟨⟨?_⟩⟩⟩
    refine wlL ?_; refine zq1 ⟨fun ht => ⟨⟨?_⟩⟩⟩
    have uU := zA @hc (zA @hgr @h5); refine cRD ?_; apply zN
    refine ⟨?_, ?_⟩
    · rw [eRV]; rfl
    · rw [eRH]
      simp only [MH, LH]
      exact rRL hdT
  by_cases h6 : o.mask / 2 ^ n = 0
  rotate_left
  · rw [decide_eq_true h6] at hwide
    refine ⟨L, 0, 2, tk, k, hS, ⟨Fwd.refl L, .inr rfl⟩, hm, ⟨hk, .inl rfl⟩, Nat.le_refl _, ?_⟩
    obtain ⟨RH, eRH⟩ : ∃ x : Heap, x = MH m tk L := ⟨_, rfl⟩; obtain ⟨RV, eRV⟩ : ∃ x : AVal, x = res2 (0) 2 := ⟨_, rfl⟩; refine Tr.mono (Tr_in (k := k) (V := RV) (RH := RH) (by omega) (by rw [eRV]; rfl) (by rw [eRH]; exact MH_lt (by omega) (by omega)) ?_) (fun _ _ _ h => ⟨h.1, h.2.1.trans eRV, h.2.2.trans eRH⟩)
    refine Tr_at Tryz.func31 rfl 139 rfl (Nat.le_of_ble_eq_true rfl) ?_
    simp only [MH, LH]
    have kp : Kp [0,1,3,4,5,6,7,8,9,11,15,21,26,40,60,66,117] (fun i => if k ≤ i then i - k + 1 else 0) := kpI
    have uU := zA @hc @hgr
    refine wlL ?_; refine zq1 ⟨⟨⟨?_⟩⟩⟩
    refine clL [.far (.lit (.bool true)) (k + 1) [(k, ⟨8, true, [opc o]⟩)] (MH m tk L) (MH m tk L)] ?_; refine zq3 ⟨⟨⟨?_⟩⟩⟩ ⟨⟨⟨?_⟩⟩⟩ ⟨⟨⟨?_⟩⟩⟩
    · intro q; simp only [MH, LH, mrow, opc, hc, hgr, List.cons_append, List.nil_append]
    · exact MH_apart (fun i hi => by simp only [AM.look]; repeat (rw [if_neg (by omega)])) rfl
    simp only [MH, LH]
    refine rRL ?_; apply zN
    refine wlL ?_; refine zq1 ⟨fun ht => ⟨⟨?_⟩⟩⟩
    refine clL [.ret (.lit (.bool true))] ?_; refine zq1 ⟨⟨⟨?_⟩⟩⟩
    refine wlL ?_; refine zq1 ⟨fun ht ht => ⟨fun hg => ⟨?_⟩⟩⟩
    refine dlL [.ret (.lit (.bool true)), .ret (.lit (.bool true))] ?_; refine zq1 ⟨⟨fun hg => ⟨?_⟩⟩⟩
    all_goals (try (exact absurd trivial ‹¬ True›))
    refine wlL ?_; refine zq1 ⟨fun ht => ⟨⟨?_⟩⟩⟩
    have uU := zA @hc @hgr; refine cRD ?_; apply zN
    refine ⟨?_, ?_⟩
    · rw [eRV]; rfl
    · rw [eRH]
      simp only [MH, LH]
      exact rRL hdT
  rw [decide_eq_false (fun h => h h6)] at hwide
  rcases find_cases hS o.task with hr | ⟨i, hi, hid, hr⟩
  rotate_left
  · have hfc := find L o.task i hr hS.sorted (by omega) m tk (k + 1) hm (by omega) (Γ := Γ)
    refine ⟨L, 0, 303, tk, k, hS, ⟨Fwd.refl L, .inr rfl⟩, hm, ⟨hk, .inl rfl⟩, Nat.le_refl _, ?_⟩
    obtain ⟨RH, eRH⟩ : ∃ x : Heap, x = MH m tk L := ⟨_, rfl⟩; obtain ⟨RV, eRV⟩ : ∃ x : AVal, x = res2 (0) 303 := ⟨_, rfl⟩; refine Tr.mono (Tr_in (k := k) (V := RV) (RH := RH) (by omega) (by rw [eRV]; rfl) (by rw [eRH]; exact MH_lt (by omega) (by omega)) ?_) (fun _ _ _ h => ⟨h.1, h.2.1.trans eRV, h.2.2.trans eRH⟩)
    refine Tr_at Tryz.func31 rfl 139 rfl (Nat.le_of_ble_eq_true rfl) ?_
    simp only [MH, LH]
    have kp : Kp [0,1,3,4,5,6,7,8,9,11,15,21,26,40,60,66,117] (fun i => if k ≤ i then i - k + 1 else 0) := kpI
    have uU := zA @hc @hgr
    refine wlL ?_; refine zq1 ⟨⟨⟨?_⟩⟩⟩
    refine clL [.far (.lit (.bool true)) (k + 1) [(k, ⟨8, true, [opc o]⟩)] (MH m tk L) (MH m tk L)] ?_; refine zq3 ⟨⟨⟨?_⟩⟩⟩ ⟨⟨⟨?_⟩⟩⟩ ⟨⟨⟨?_⟩⟩⟩
    · intro q; simp only [MH, LH, mrow, opc, hc, hgr, List.cons_append, List.nil_append]
    · exact MH_apart (fun i hi => by simp only [AM.look]; repeat (rw [if_neg (by omega)])) rfl
    simp only [MH, LH]
    refine rRL ?_; apply zN
    refine wlL ?_; refine zq1 ⟨fun ht => ⟨⟨?_⟩⟩⟩
    refine clL [.ret (.lit (.bool true))] ?_; refine zq1 ⟨⟨⟨?_⟩⟩⟩
    refine wlL ?_; refine zq1 ⟨fun ht ht => ⟨fun hg => ⟨?_⟩⟩⟩
    refine dlL [.ret (.lit (.bool true)), .ret (.lit (.bool false))] ?_; refine zq1 ⟨⟨fun hg => ⟨?_⟩⟩⟩
    all_goals (try (exact absurd trivial ‹¬ True›))
    refine wlL ?_; refine zq1 ⟨fun ht => ⟨⟨?_⟩⟩⟩
    refine clL [.far (.lit (.int .i64 (i : Int))) (k + 1) [(k, ⟨8, true, [opc o]⟩)] (MH m tk L) (MH m tk L)] ?_; refine zq3 ⟨⟨⟨?_⟩⟩⟩ ⟨⟨⟨?_⟩⟩⟩ ⟨⟨⟨?_⟩⟩⟩
    · intro q; simp only [MH, LH, mrow, opc, hc, hgr, List.cons_append, List.nil_append]
    · exact MH_apart (fun i hi => by simp only [AM.look]; repeat (rw [if_neg (by omega)])) rfl
    simp only [MH, LH]
    refine rRL ?_; apply zN
    refine wlL ?_; refine zq1 ⟨fun ht => ⟨⟨?_⟩⟩⟩
    have uU := zA @hc @hgr; refine cRD ?_; apply zN
    refine ⟨?_, ?_⟩
    · rw [eRV]; rfl
    · rw [eRH]
      simp only [MH, LH]
      exact rRL hdT
  have hfc := find L o.task (-1) hr hS.sorted (by omega) m tk (k + 1) hm (by omega) (Γ := Γ)
  have hmb : IntKind.u64.wrap ((BitVec.ofInt IntKind.u64.bits (o.mask.fdiv (2 ^ min c 64)) &&& BitVec.ofInt IntKind.u64.bits 1).toNat : Int) = o.mask / 2 ^ c % 2 := by
    have := mask_bit (x := o.mask) (c := (c : Int)) hmk.1 hmk.2 (by omega) (by omega)
    rwa [Int.toNat_natCast] at this
  have hneg : ((c : Int) < 0) = False := eq_false (by omega)
  have hmod := Int.emod_two_eq (o.mask / 2 ^ c)
  by_cases h7 : o.mask / 2 ^ c % 2 = 0
  · refine ⟨L, 0, 305, tk, k, hS, ⟨Fwd.refl L, .inr rfl⟩, hm, ⟨hk, .inl rfl⟩, Nat.le_refl _, ?_⟩
    obtain ⟨RH, eRH⟩ : ∃ x : Heap, x = MH m tk L := ⟨_, rfl⟩; obtain ⟨RV, eRV⟩ : ∃ x : AVal, x = res2 (0) 305 := ⟨_, rfl⟩; refine Tr.mono (Tr_in (k := k) (V := RV) (RH := RH) (by omega) (by rw [eRV]; rfl) (by rw [eRH]; exact MH_lt (by omega) (by omega)) ?_) (fun _ _ _ h => ⟨h.1, h.2.1.trans eRV, h.2.2.trans eRH⟩)
    refine Tr_at Tryz.func31 rfl 139 rfl (Nat.le_of_ble_eq_true rfl) ?_
    simp only [MH, LH]
    have kp : Kp [0,1,3,4,5,6,7,8,9,11,15,21,26,40,60,66,117] (fun i => if k ≤ i then i - k + 1 else 0) := kpI
    have uU := zA @hc @hgr
    refine wlL ?_; refine zq1 ⟨⟨⟨?_⟩⟩⟩
    refine clL [.far (.lit (.bool true)) (k + 1) [(k, ⟨8, true, [opc o]⟩)] (MH m tk L) (MH m tk L)] ?_; refine zq3 ⟨⟨⟨?_⟩⟩⟩ ⟨⟨⟨?_⟩⟩⟩ ⟨⟨⟨?_⟩⟩⟩
    · intro q; simp only [MH, LH, mrow, opc, hc, hgr, List.cons_append, List.nil_append]
    · exact MH_apart (fun i hi => by simp only [AM.look]; repeat (rw [if_neg (by omega)])) rfl
    simp only [MH, LH]
    refine rRL ?_; apply zN
    refine wlL ?_; refine zq1 ⟨fun ht => ⟨⟨?_⟩⟩⟩
    refine clL [.ret (.lit (.bool true))] ?_; refine zq1 ⟨⟨⟨?_⟩⟩⟩
    refine wlL ?_; refine zq1 ⟨fun ht ht => ⟨fun hg => ⟨?_⟩⟩⟩
    refine dlL [.ret (.lit (.bool true)), .ret (.lit (.bool false))] ?_; refine zq1 ⟨⟨fun hg => ⟨?_⟩⟩⟩
    all_goals (try (exact absurd trivial ‹¬ True›))
    refine wlL ?_; refine zq1 ⟨fun ht => ⟨⟨?_⟩⟩⟩
    refine clL [.far (.lit (.int .i64 (-1))) (k + 1) [(k, ⟨8, true, [opc o]⟩)] (MH m tk L) (MH m tk L)] ?_; refine zq3 ⟨⟨⟨?_⟩⟩⟩ ⟨⟨⟨?_⟩⟩⟩ ⟨⟨⟨?_⟩⟩⟩
    · intro q; simp only [MH, LH, mrow, opc, hc, hgr, List.cons_append, List.nil_append]
    · exact MH_apart (fun i hi => by simp only [AM.look]; repeat (rw [if_neg (by omega)])) rfl
    simp only [MH, LH]
    refine rRL ?_; apply zN
    have uU := zA @hc (zA @hgr (zA @hmb @hneg))
    refine wlL ?_; refine zq1 ⟨fun ht ht => ⟨⟨?_⟩⟩⟩
    have uU := zA @hc (zA @hgr (zA @hmb @hneg)); refine cRD ?_; apply zN
    refine ⟨?_, ?_⟩
    · rw [eRV]; rfl
    · rw [eRH]
      simp only [MH, LH]
      exact rRL hdT
  exact spawnS L n hS o hl hmk m tk k hm hk c g hc hgr hcn hg1 h2 h4 h5 h6 hr (by omega)
end Go.Proofs.T
end
section
namespace Go.Proofs.T
open Go Go.AM Go.Proofs
set_option maxRecDepth 20000
variable {Γ : List (Nat × List AVal)}
def Goodt (L : LSt) (c i : Nat) : Prop := i < L.tl.length ∧ (L.tsk i).ready = true ∧ (L.tsk i).mask / 2 ^ c % 2 = 1 ∧ L.cur (L.tsk i).cpu.toNat ≠ (L.tsk i).id
theorem cur_other {L : LSt} {n i : Nat} (h : Rt0 L n) (hi : i < L.tl.length) (hc : L.cur (L.tsk i).cpu.toNat ≠ (L.tsk i).id) : ∀ c, c < n → L.cur c ≠ (L.tsk i).id := fun c hcn e => by
  have hT := h.tk i hi
  rcases h.cur c hcn with h0 | ⟨j, h2, h3, h4, h5⟩
  · have := hT.id1; omega
  · have hji : j = i := by
      rcases Nat.lt_trichotomy j i with hl | hl | hl
      · have := h.sorted j i hl hi; omega
      · exact hl
      · have := h.sorted i j hl h2; omega
    subst hji
    rw [h4, Int.toNat_natCast] at hc
    exact hc e
def fmN (L : LSt) (c : Nat) : Nat → Int × Int
  | 0 => (-1, -1)
  | j + 1 => if (j : Int) ≠ c ∧ (fmN L c j).2 < wtL L (j : Int) L.tl.length then ((j : Int), wtL L (j : Int) L.tl.length) else fmN L c j
def mayP (L : LSt) (c : Nat) (fr : Int) (i : Nat) : Prop := (L.tsk i).ready = true ∧ (L.tsk i).cpu = fr ∧ (L.tsk i).mask / 2 ^ c % 2 = 1 ∧ L.cur (L.tsk i).cpu.toNat ≠ (L.tsk i).id
def canP (L : LSt) (mo W : Int) (i : Nat) (b : Int) : Prop := 2 * (L.tsk i).weight ≤ IntKind.i64.wrap (mo - W) ∧ (b < 0 ∨ (L.tsk b.toNat).weight < (L.tsk i).weight)
instance (L : LSt) (c : Nat) (fr : Int) (i : Nat) : Decidable (mayP L c fr i) := by unfold mayP; infer_instance
instance (L : LSt) (mo W : Int) (i : Nat) (b : Int) : Decidable (canP L mo W i b) := by unfold canP; infer_instance
def bsN (L : LSt) (c : Nat) (fr mo W : Int) : Nat → Int
  | 0 => -1
  | i + 1 => if mayP L c fr i ∧ canP L mo W i (bsN L c fr mo W i) then (i : Int) else bsN L c fr mo W i
def Bst (L : LSt) (c : Nat) (b : Int) : Prop := b = -1 ∨ ∃ j : Nat, b = (j : Int) ∧ Goodt L c j
theorem bsN_ok {L : LSt} {c : Nat} {fr mo W : Int} : ∀ {i : Nat}, i ≤ L.tl.length → Bst L c (bsN L c fr mo W i)
  | 0, _ => .inl rfl
  | i + 1, hi => by
    rw [bsN]
    split
    · rename_i h
      exact .inr ⟨i, rfl, by omega, h.1.1, h.1.2.2.1, h.1.2.2.2⟩
    · exact bsN_ok (by omega)
end Go.Proofs.T
end
section
namespace Go.Proofs.T
open Go Go.AM Go.Proofs
set_option maxRecDepth 20000
variable {Γ : List (Nat × List AVal)}
set_option maxHeartbeats 16000000 in
theorem rndS (L : LSt) (n : Nat) (hS : Rt0 L n) (o : Opn) (m tk k : Nat) (hm : m + 6 + L.sl.length ≤ tk) (hk : tk < k) (c : Nat) (hc : o.cpu = (c : Int)) (hcn : c < n) (i : Nat) (hi2 : i < L.tl.length) (p : Int × Int) (W b : Int) (hwp : AM.Pure Tryz.prog Γ 84 [.rp (mcL L), .lit (.int .i64 (c : Int))] (.lit (.int .i64 W))) (hno : ¬ mayP L c p.1 i) (N : Nat → Fr → Heap → Prop) (Q : AQ) (hN : ∀ k1 fr1 H1, Mv k k1 fr1 H1 (k + 1) (ovr [0,1,3,4,5,6,7,8,9,10,11,12,13,14,19,25,26,27,40,48,49,50,51,116,120] [(50, .lit (.int .i64 ((i + 1 : Nat) : Int))), (10, .lit (.int .i64 (b)))] [(0, .ptr m 0 0), (3, .ptr k 0 0), (6, .lit (.int .i64 p.1)), (7, .lit (.int .i64 p.2)), (48, .sl tk 0 L.tl.length), (49, .lit (.int .i64 (L.tl.length : Int)))]) ((k, ⟨8, true, [opc o]⟩) :: MH m tk L) → N k1 fr1 H1) :
    AM.W Tryz.prog Γ 136 k (cat (bodyOf Tryz.f39) [0, 0, 1, 0, 1, 1, 1, 1, 1]) (thenQ N Q) (k + 1) (ovr [0,1,3,4,5,6,7,8,9,10,11,12,13,14,19,25,26,27,40,48,49,50,51,116,120] [(50, .lit (.int .i64 (i : Int))), (10, .lit (.int .i64 b))] [(0, .ptr m 0 0), (3, .ptr k 0 0), (6, .lit (.int .i64 p.1)), (7, .lit (.int .i64 p.2)), (48, .sl tk 0 L.tl.length), (49, .lit (.int .i64 (L.tl.length : Int)))]) ((k, ⟨8, true, [opc o]⟩) :: MH m tk L) := by
  have hnt := hS.nt
  have hcp := hS.cpus
  have hnu := hS.nu
  have hn1 := hS.n1
  have hn64 := hS.n64
  have hns := hS.ns
  have hneg : ((c : Int) < 0) = False := eq_false (by omega)
  have hO : opc o = [.lit (.int .u8 o.kind), .lit (.int .i64 (c : Int)), .lit (.int .i64 o.task), .lit (.int .i64 o.group), .lit (.int .i64 o.weight), .lit (.int .i64 o.to), .lit (.int .i64 o.ticks), .lit (.int .u64 o.mask)] := by rw [← hc]; rfl
  obtain ⟨NM, eNM⟩ : ∃ x, x = (MH m tk L).map (·.1) := ⟨_, rfl⟩
  have hNM : nub (NM.map (fun i => if k ≤ i then i - k + 1 else 0)) = [0] := by rw [eNM]; exact MH_names hm hk (fun i hi => if_neg (by omega))
  have hT := hS.tk i hi2
  have hTe := hT.e
  simp only [ent, decide_eq_true_eq] at hTe
  obtain ⟨d, hd⟩ : ∃ d : Nat, (L.tsk i).cpu = (d : Int) := ⟨(L.tsk i).cpu.toNat, by have := hT.c0; omega⟩
  have hdn : d < n := by have := hT.c1; omega
  have hmb : IntKind.u64.wrap ((BitVec.ofInt IntKind.u64.bits ((L.tsk i).mask.fdiv (2 ^ min c 64)) &&& BitVec.ofInt IntKind.u64.bits 1).toNat : Int) = (L.tsk i).mask / 2 ^ c % 2 := by
    have := mask_bit (x := (L.tsk i).mask) (c := (c : Int)) hT.m0 hT.m1 (by omega) (by omega)
    rwa [Int.toNat_natCast] at this
  have hmay : mayP L c p.1 i ↔ (L.tsk i).ready = true ∧ (d : Int) = p.1 ∧ (L.tsk i).mask / 2 ^ c % 2 = 1 ∧ L.cur d ≠ (L.tsk i).id := by unfold mayP; rw [hd, Int.toNat_natCast]
  have hw2 : IntKind.i64.wrap (2 * (L.tsk i).weight) = 2 * (L.tsk i).weight := wrap_i64 (by omega) (by omega)
  obtain ⟨V, eV⟩ : ∃ V, V = IntKind.i64.wrap (p.2 - W) := ⟨_, rfl⟩
  have eV2 := eV.symm
  have hcan : canP L p.2 W i b ↔ 2 * (L.tsk i).weight ≤ V ∧ (b < 0 ∨ (L.tsk b.toNat).weight < (L.tsk i).weight) := by unfold canP; rw [← eV]
  rw [hO] at hN ⊢
  simp only [MH, LH]
  try (simp -dsimp -implicitDefEqProofs (disch := omega) only [go_sem, nq0, eq_self, ↓reduceIte])
  rw [hmay] at hno
  by_cases r1 : (L.tsk i).ready = true
  rotate_left
  · have r1' : (L.tsk i).ready = false := by simpa using r1
    have kp : Kp [0,1,3,4,5,6,7,8,9,10,11,12,13,14,19,25,26,27,40,48,49,50,51,116,120] (fun i => if k ≤ i then i - k + 1 else 0) := kpI
    have uU := zA @hd (zA @hmb (zA @hneg (zA @hNM (zA @hw2 (zA @eV2 @r1')))))
    refine wlL ?_; refine zq1 ⟨fun ht => ⟨⟨?_⟩⟩⟩
    refine dlL [.raw (some 95) ⟨.lit (.int .i64 W), k + 2, [], NM⟩] ?_; refine zq1 ⟨⟨⟨?_⟩⟩⟩
    all_goals (first | exact lend (loc := [(k + 1, ⟨8, true, _⟩), (k, ⟨8, true, _⟩)]) hm rfl (by kernel_rfl) rfl rfl rfl (fun x hx => by simp only [List.mem_cons, List.not_mem_nil, or_false] at hx; rcases hx with hx | hx <;> rw [hx] <;> simp only [] <;> omega) hwp eNM | skip)
    all_goals ((refine wlL ?_; refine zq1 ⟨fun ht => ⟨⟨?_⟩⟩⟩))
    all_goals (refine hN _ _ _ ?_)
    all_goals (try (simp only [MH, LH]))
    all_goals (try (simp -dsimp -implicitDefEqProofs (disch := omega) only [go_sem, nq0, hd, hmb, hneg, hNM, hw2, eV2, r1', eq_self, ↓reduceIte]))
    all_goals (exact wkD)
  by_cases r2 : (d : Int) = p.1
  rotate_left
  · have r2b : ((d : Int) == p.1) = false := by rw [beq_eq_false_iff_ne]; exact r2
    have kp : Kp [0,1,3,4,5,6,7,8,9,10,11,12,13,14,19,25,26,27,40,48,49,50,51,116,120] (fun i => if k ≤ i then i - k + 1 else 0) := kpI
    have uU := zA @hd (zA @hmb (zA @hneg (zA @hNM (zA @hw2 (zA @eV2 (zA @r1 @r2b))))))
    refine wlL ?_; refine zq1 ⟨fun ht => ⟨⟨?_⟩⟩⟩
    refine dlL [.raw (some 95) ⟨.lit (.int .i64 W), k + 2, [], NM⟩] ?_; refine zq1 ⟨⟨⟨?_⟩⟩⟩
    all_goals (first | exact lend (loc := [(k + 1, ⟨8, true, _⟩), (k, ⟨8, true, _⟩)]) hm rfl (by kernel_rfl) rfl rfl rfl (fun x hx => by simp only [List.mem_cons, List.not_mem_nil, or_false] at hx; rcases hx with hx | hx <;> rw [hx] <;> simp only [] <;> omega) hwp eNM | skip)
    all_goals ((refine wlL ?_; refine zq1 ⟨fun ht => ⟨⟨?_⟩⟩⟩))
    all_goals (refine hN _ _ _ ?_)
    all_goals (try (simp only [MH, LH]))
    all_goals (try (simp -dsimp -implicitDefEqProofs (disch := omega) only [go_sem, nq0, hd, hmb, hneg, hNM, hw2, eV2, r1, r2b, eq_self, ↓reduceIte]))
    all_goals (exact wkD)
  by_cases r3 : (L.tsk i).mask / 2 ^ c % 2 = 1
  rotate_left
  · have r2b : ((d : Int) == p.1) = true := by rw [beq_iff_eq]; exact r2
    have r3b : ((L.tsk i).mask / 2 ^ c % 2 == 1) = false := by rw [beq_eq_false_iff_ne]; exact r3
    have kp : Kp [0,1,3,4,5,6,7,8,9,10,11,12,13,14,19,25,26,27,40,48,49,50,51,116,120] (fun i => if k ≤ i then i - k + 1 else 0) := kpI
    have uU := zA @hd (zA @hmb (zA @hneg (zA @hNM (zA @hw2 (zA @eV2 (zA @r1 (zA @r2b @r3b)))))))
    refine wlL ?_; refine zq1 ⟨fun ht => ⟨⟨?_⟩⟩⟩
    refine dlL [.raw (some 95) ⟨.lit (.int .i64 W), k + 2, [], NM⟩] ?_; refine zq1 ⟨⟨⟨?_⟩⟩⟩
    all_goals (first | exact lend (loc := [(k + 1, ⟨8, true, _⟩), (k, ⟨8, true, _⟩)]) hm rfl (by kernel_rfl) rfl rfl rfl (fun x hx => by simp only [List.mem_cons, List.not_mem_nil, or_false] at hx; rcases hx with hx | hx <;> rw [hx] <;> simp only [] <;> omega) hwp eNM | skip)
    all_goals ((refine wlL ?_; refine zq1 ⟨fun ht => ⟨⟨?_⟩⟩⟩))
    all_goals (refine hN _ _ _ ?_)
    all_goals (try (simp only [MH, LH]))
    all_goals (try (simp -dsimp -implicitDefEqProofs (disch := omega) only [go_sem, nq0, hd, hmb, hneg, hNM, hw2, eV2, r1, r2b, r3b, eq_self, ↓reduceIte]))
    all_goals (exact wkD)
  have r4 : L.cur d = (L.tsk i).id := Decidable.byContradiction fun h => hno ⟨r1, r2, r3, h⟩
  have r2b : ((d : Int) == p.1) = true := by rw [beq_iff_eq]; exact r2
  have r4b : (L.cur d != (L.tsk i).id) = false := by rw [r4]; simp
  have kp : Kp [0,1,3,4,5,6,7,8,9,10,11,12,13,14,19,25,26,27,40,48,49,50,51,116,120] (fun i => if k ≤ i then i - k + 1 else 0) := kpI
  have uU := zA @hd (zA @hmb (zA @hneg (zA @hNM (zA @hw2 (zA @eV2 (zA @r1 (zA @r2b (zA @r3 @r4b))))))))
  refine wlL ?_; refine zq1 ⟨fun ht => ⟨⟨?_⟩⟩⟩
  refine dlL [.raw (some 95) ⟨.lit (.int .i64 W), k + 2, [], NM⟩] ?_; refine zq1 ⟨⟨⟨?_⟩⟩⟩
  all_goals (first | exact lend (loc := [(k + 1, ⟨8, true, _⟩), (k, ⟨8, true, _⟩)]) hm rfl (by kernel_rfl) rfl rfl rfl (fun x hx => by simp only [List.mem_cons, List.not_mem_nil, or_false] at hx; rcases hx with hx | hx <;> rw [hx] <;> simp only [] <;> omega) hwp eNM | skip)
  all_goals ((refine wlL ?_; refine zq1 ⟨fun ht => ⟨⟨?_⟩⟩⟩))
  all_goals (refine hN _ _ _ ?_)
  all_goals (try (simp only [MH, LH]))
  all_goals (try (simp -dsimp -implicitDefEqProofs (disch := omega) only [go_sem, nq0, hd, hmb, hneg, hNM, hw2, eV2, r1, r2b, r3, r4b, eq_self, ↓reduceIte]))
  all_goals (exact wkD)
end Go.Proofs.T
end
section
namespace Go.Proofs.T
open Go Go.AM Go.Proofs
set_option maxRecDepth 20000
variable {Γ : List (Nat × List AVal)}
set_option maxHeartbeats 16000000 in
theorem rndA (L : LSt) (n : Nat) (hS : Rt0 L n) (o : Opn) (m tk k : Nat) (hm : m + 6 + L.sl.length ≤ tk) (hk : tk < k) (c : Nat) (hc : o.cpu = (c : Int)) (hcn : c < n) (i : Nat) (hi2 : i < L.tl.length) (p : Int × Int) (W b : Int) (hwp : AM.Pure Tryz.prog Γ 84 [.rp (mcL L), .lit (.int .i64 (c : Int))] (.lit (.int .i64 W))) (hyes : mayP L c p.1 i) (hca : ¬ (2 * (L.tsk i).weight ≤ IntKind.i64.wrap (p.2 - W))) (N : Nat → Fr → Heap → Prop) (Q : AQ) (hN : ∀ k1 fr1 H1, Mv k k1 fr1 H1 (k + 1) (ovr [0,1,3,4,5,6,7,8,9,10,11,12,13,14,19,25,26,27,40,48,49,50,51,116,120] [(50, .lit (.int .i64 ((i + 1 : Nat) : Int))), (10, .lit (.int .i64 (b)))] [(0, .ptr m 0 0), (3, .ptr k 0 0), (6, .lit (.int .i64 p.1)), (7, .lit (.int .i64 p.2)), (48, .sl tk 0 L.tl.length), (49, .lit (.int .i64 (L.tl.length : Int)))]) ((k, ⟨8, true, [opc o]⟩) :: MH m tk L) → N k1 fr1 H1) :
    AM.W Tryz.prog Γ 136 k (cat (bodyOf Tryz.f39) [0, 0, 1, 0, 1, 1, 1, 1, 1]) (thenQ N Q) (k + 1) (ovr [0,1,3,4,5,6,7,8,9,10,11,12,13,14,19,25,26,27,40,48,49,50,51,116,120] [(50, .lit (.int .i64 (i : Int))), (10, .lit (.int .i64 b))] [(0, .ptr m 0 0), (3, .ptr k 0 0), (6, .lit (.int .i64 p.1)), (7, .lit (.int .i64 p.2)), (48, .sl tk 0 L.tl.length), (49, .lit (.int .i64 (L.tl.length : Int)))]) ((k, ⟨8, true, [opc o]⟩) :: MH m tk L) := by
  have hnt := hS.nt
  have hcp := hS.cpus
  have hnu := hS.nu
  have hn1 := hS.n1
  have hn64 := hS.n64
  have hns := hS.ns
  have hneg : ((c : Int) < 0) = False := eq_false (by omega)
  have hO : opc o = [.lit (.int .u8 o.kind), .lit (.int .i64 (c : Int)), .lit (.int .i64 o.task), .lit (.int .i64 o.group), .lit (.int .i64 o.weight), .lit (.int .i64 o.to), .lit (.int .i64 o.ticks), .lit (.int .u64 o.mask)] := by rw [← hc]; rfl
  obtain ⟨NM, eNM⟩ : ∃ x, x = (MH m tk L).map (·.1) := ⟨_, rfl⟩
  have hNM : nub (NM.map (fun i => if k ≤ i then i - k + 1 else 0)) = [0] := by rw [eNM]; exact MH_names hm hk (fun i hi => if_neg (by omega))
  have hT := hS.tk i hi2
  have hTe := hT.e
  simp only [ent, decide_eq_true_eq] at hTe
  obtain ⟨d, hd⟩ : ∃ d : Nat, (L.tsk i).cpu = (d : Int) := ⟨(L.tsk i).cpu.toNat, by have := hT.c0; omega⟩
  have hdn : d < n := by have := hT.c1; omega
  have hmb : IntKind.u64.wrap ((BitVec.ofInt IntKind.u64.bits ((L.tsk i).mask.fdiv (2 ^ min c 64)) &&& BitVec.ofInt IntKind.u64.bits 1).toNat : Int) = (L.tsk i).mask / 2 ^ c % 2 := by
    have := mask_bit (x := (L.tsk i).mask) (c := (c : Int)) hT.m0 hT.m1 (by omega) (by omega)
    rwa [Int.toNat_natCast] at this
  have hmay : mayP L c p.1 i ↔ (L.tsk i).ready = true ∧ (d : Int) = p.1 ∧ (L.tsk i).mask / 2 ^ c % 2 = 1 ∧ L.cur d ≠ (L.tsk i).id := by unfold mayP; rw [hd, Int.toNat_natCast]
  have hw2 : IntKind.i64.wrap (2 * (L.tsk i).weight) = 2 * (L.tsk i).weight := wrap_i64 (by omega) (by omega)
  obtain ⟨V, eV⟩ : ∃ V, V = IntKind.i64.wrap (p.2 - W) := ⟨_, rfl⟩
  have eV2 := eV.symm
  have hcan : canP L p.2 W i b ↔ 2 * (L.tsk i).weight ≤ V ∧ (b < 0 ∨ (L.tsk b.toNat).weight < (L.tsk i).weight) := by unfold canP; rw [← eV]
  rw [hO] at hN ⊢
  simp only [MH, LH]
  try (simp -dsimp -implicitDefEqProofs (disch := omega) only [go_sem, nq0, eq_self, ↓reduceIte])
  obtain ⟨r1, r2, r3, r4⟩ := hmay.1 hyes
  rw [← eV] at hca
  have q1 : (2 * (L.tsk i).weight ≤ V) = False := eq_false hca
  have r2b : ((d : Int) == p.1) = true := by rw [beq_iff_eq]; exact r2
  have r4b : (L.cur d != (L.tsk i).id) = true := by simp [r4]
  have kp : Kp [0,1,3,4,5,6,7,8,9,10,11,12,13,14,19,25,26,27,40,48,49,50,51,116,120] (fun i => if k ≤ i then i - k + 1 else 0) := kpI
  have uU := zA @hd (zA @hmb (zA @hneg (zA @hNM (zA @hw2 (zA @eV2 (zA @r1 (zA @r2b (zA @r3 (zA @r4b @q1)))))))))
  refine wlL ?_; refine zq1 ⟨fun ht => ⟨⟨?_⟩⟩⟩
  refine dlL [.raw (some 95) ⟨.lit (.int .i64 W), k + 2, [], NM⟩] ?_; refine zq2 ⟨⟨⟨?_⟩⟩⟩ ⟨⟨⟨?_⟩⟩⟩
  all_goals (first | exact lend (loc := [(k + 1, ⟨8, true, _⟩), (k, ⟨8, true, _⟩)]) hm rfl (by kernel_rfl) rfl rfl rfl (fun x hx => by simp only [List.mem_cons, List.not_mem_nil, or_false] at hx; rcases hx with hx | hx <;> rw [hx] <;> simp only [] <;> omega) hwp eNM | skip)
  all_goals ((refine wlL ?_; refine zq1 ⟨fun ht => ⟨⟨?_⟩⟩⟩))
  all_goals (refine hN _ _ _ ?_)
  all_goals (try (simp only [MH, LH]))
  all_goals (try (simp -dsimp -implicitDefEqProofs (disch := omega) only [go_sem, nq0, hd, hmb, hneg, hNM, hw2, eV2, r1, r2b, r3, r4b, q1, eq_self, ↓reduceIte]))
  all_goals (exact wkD)
end Go.Proofs.T
end
section
namespace Go.Proofs.T
open Go Go.AM Go.Proofs
set_option maxRecDepth 20000
variable {Γ : List (Nat × List AVal)}
set_option maxHeartbeats 16000000 in
theorem rndB (L : LSt) (n : Nat) (hS : Rt0 L n) (o : Opn) (m tk k : Nat) (hm : m + 6 + L.sl.length ≤ tk) (hk : tk < k) (c : Nat) (hc : o.cpu = (c : Int)) (hcn : c < n) (i : Nat) (hi2 : i < L.tl.length) (p : Int × Int) (W b : Int) (hwp : AM.Pure Tryz.prog Γ 84 [.rp (mcL L), .lit (.int .i64 (c : Int))] (.lit (.int .i64 W))) (hyes : mayP L c p.1 i) (hca : 2 * (L.tsk i).weight ≤ IntKind.i64.wrap (p.2 - W)) (hb : b = -1) (N : Nat → Fr → Heap → Prop) (Q : AQ) (hN : ∀ k1 fr1 H1, Mv k k1 fr1 H1 (k + 1) (ovr [0,1,3,4,5,6,7,8,9,10,11,12,13,14,19,25,26,27,40,48,49,50,51,116,120] [(50, .lit (.int .i64 ((i + 1 : Nat) : Int))), (10, .lit (.int .i64 ((i : Int))))] [(0, .ptr m 0 0), (3, .ptr k 0 0), (6, .lit (.int .i64 p.1)), (7, .lit (.int .i64 p.2)), (48, .sl tk 0 L.tl.length), (49, .lit (.int .i64 (L.tl.length : Int)))]) ((k, ⟨8, true, [opc o]⟩) :: MH m tk L) → N k1 fr1 H1) :
    AM.W Tryz.prog Γ 136 k (cat (bodyOf Tryz.f39) [0, 0, 1, 0, 1, 1, 1, 1, 1]) (thenQ N Q) (k + 1) (ovr [0,1,3,4,5,6,7,8,9,10,11,12,13,14,19,25,26,27,40,48,49,50,51,116,120] [(50, .lit (.int .i64 (i : Int))), (10, .lit (.int .i64 b))] [(0, .ptr m 0 0), (3, .ptr k 0 0), (6, .lit (.int .i64 p.1)), (7, .lit (.int .i64 p.2)), (48, .sl tk 0 L.tl.length), (49, .lit (.int .i64 (L.tl.length : Int)))]) ((k, ⟨8, true, [opc o]⟩) :: MH m tk L) := by
  have hnt := hS.nt
  have hcp := hS.cpus
  have hnu := hS.nu
  have hn1 := hS.n1
  have hn64 := hS.n64
  have hns := hS.ns
  have hneg : ((c : Int) < 0) = False := eq_false (by omega)
  have hO : opc o = [.lit (.int .u8 o.kind), .lit (.int .i64 (c : Int)), .lit (.int .i64 o.task), .lit (.int .i64 o.group), .lit (.int .i64 o.weight), .lit (.int .i64 o.to), .lit (.int .i64 o.ticks), .lit (.int .u64 o.mask)] := by rw [← hc]; rfl
  obtain ⟨NM, eNM⟩ : ∃ x, x = (MH m tk L).map (·.1) := ⟨_, rfl⟩
  have hNM : nub (NM.map (fun i => if k ≤ i then i - k + 1 else 0)) = [0] := by rw [eNM]; exact MH_names hm hk (fun i hi => if_neg (by omega))
  have hT := hS.tk i hi2
  have hTe := hT.e
  simp only [ent, decide_eq_true_eq] at hTe
  obtain ⟨d, hd⟩ : ∃ d : Nat, (L.tsk i).cpu = (d : Int) := ⟨(L.tsk i).cpu.toNat, by have := hT.c0; omega⟩
  have hdn : d < n := by have := hT.c1; omega
  have hmb : IntKind.u64.wrap ((BitVec.ofInt IntKind.u64.bits ((L.tsk i).mask.fdiv (2 ^ min c 64)) &&& BitVec.ofInt IntKind.u64.bits 1).toNat : Int) = (L.tsk i).mask / 2 ^ c % 2 := by
    have := mask_bit (x := (L.tsk i).mask) (c := (c : Int)) hT.m0 hT.m1 (by omega) (by omega)
    rwa [Int.toNat_natCast] at this
  have hmay : mayP L c p.1 i ↔ (L.tsk i).ready = true ∧ (d : Int) = p.1 ∧ (L.tsk i).mask / 2 ^ c % 2 = 1 ∧ L.cur d ≠ (L.tsk i).id := by unfold mayP; rw [hd, Int.toNat_natCast]
  have hw2 : IntKind.i64.wrap (2 * (L.tsk i).weight) = 2 * (L.tsk i).weight := wrap_i64 (by omega) (by omega)
  obtain ⟨V, eV⟩ : ∃ V, V = IntKind.i64.wrap (p.2 - W) := ⟨_, rfl⟩
  have eV2 := eV.symm
  have hcan : canP L p.2 W i b ↔ 2 * (L.tsk i).weight ≤ V ∧ (b < 0 ∨ (L.tsk b.toNat).weight < (L.tsk i).weight) := by unfold canP; rw [← eV]
  rw [hO] at hN ⊢
  simp only [MH, LH]
  try (simp -dsimp -implicitDefEqProofs (disch := omega) only [go_sem, nq0, eq_self, ↓reduceIte])
  obtain ⟨r1, r2, r3, r4⟩ := hmay.1 hyes
  rw [← eV] at hca
  subst hb
  have q1 : (2 * (L.tsk i).weight ≤ V) = True := eq_true hca
  have q3 : ((-1 : Int) < 0) = True := eq_true (by omega)
  have r2b : ((d : Int) == p.1) = true := by rw [beq_iff_eq]; exact r2
  have r4b : (L.cur d != (L.tsk i).id) = true := by simp [r4]
  have kp : Kp [0,1,3,4,5,6,7,8,9,10,11,12,13,14,19,25,26,27,40,48,49,50,51,116,120] (fun i => if k ≤ i then i - k + 1 else 0) := kpI
  have uU := zA @hd (zA @hmb (zA @hneg (zA @hNM (zA @hw2 (zA @eV2 (zA @r1 (zA @r2b (zA @r3 (zA @r4b (zA @q1 @q3))))))))))
  refine wlL ?_; refine zq1 ⟨fun ht => ⟨⟨?_⟩⟩⟩
  refine dlL [.raw (some 95) ⟨.lit (.int .i64 W), k + 2, [], NM⟩] ?_; refine zq2 ⟨⟨⟨?_⟩⟩⟩ ⟨⟨⟨?_⟩⟩⟩
  all_goals (first | exact lend (loc := [(k + 1, ⟨8, true, _⟩), (k, ⟨8, true, _⟩)]) hm rfl (by kernel_rfl) rfl rfl rfl (fun x hx => by simp only [List.mem_cons, List.not_mem_nil, or_false] at hx; rcases hx with hx | hx <;> rw [hx] <;> simp only [] <;> omega) hwp eNM | skip)
  all_goals ((refine wlL ?_; refine zq1 ⟨fun ht => ⟨⟨?_⟩⟩⟩))
  all_goals (refine hN _ _ _ ?_)
  all_goals (try (simp only [MH, LH]))
  all_goals (try (simp -dsimp -implicitDefEqProofs (disch := omega) only [go_sem, nq0, hd, hmb, hneg, hNM, hw2, eV2, r1, r2b, r3, r4b, q1, q3, eq_self, ↓reduceIte]))
  all_goals (exact wkD)
end Go.Proofs.T
end
section
namespace Go.Proofs.T
open Go Go.AM Go.Proofs
set_option maxRecDepth 20000
variable {Γ : List (Nat × List AVal)}
set_option maxHeartbeats 16000000 in
theorem rndC (L : LSt) (n : Nat) (hS : Rt0 L n) (o : Opn) (m tk k : Nat) (hm : m + 6 + L.sl.length ≤ tk) (hk : tk < k) (c : Nat) (hc : o.cpu = (c : Int)) (hcn : c < n) (i : Nat) (hi2 : i < L.tl.length) (p : Int × Int) (W b : Int) (hwp : AM.Pure Tryz.prog Γ 84 [.rp (mcL L), .lit (.int .i64 (c : Int))] (.lit (.int .i64 W))) (hyes : mayP L c p.1 i) (hca : 2 * (L.tsk i).weight ≤ IntKind.i64.wrap (p.2 - W)) (y : Nat) (hb : b = (y : Int)) (hy : y < L.tl.length) (q2 : (L.tsk y).weight < (L.tsk i).weight) (N : Nat → Fr → Heap → Prop) (Q : AQ) (hN : ∀ k1 fr1 H1, Mv k k1 fr1 H1 (k + 1) (ovr [0,1,3,4,5,6,7,8,9,10,11,12,13,14,19,25,26,27,40,48,49,50,51,116,120] [(50, .lit (.int .i64 ((i + 1 : Nat) : Int))), (10, .lit (.int .i64 ((i : Int))))] [(0, .ptr m 0 0), (3, .ptr k 0 0), (6, .lit (.int .i64 p.1)), (7, .lit (.int .i64 p.2)), (48, .sl tk 0 L.tl.length), (49, .lit (.int .i64 (L.tl.length : Int)))]) ((k, ⟨8, true, [opc o]⟩) :: MH m tk L) → N k1 fr1 H1) :
    AM.W Tryz.prog Γ 136 k (cat (bodyOf Tryz.f39) [0, 0, 1, 0, 1, 1, 1, 1, 1]) (thenQ N Q) (k + 1) (ovr [0,1,3,4,5,6,7,8,9,10,11,12,13,14,19,25,26,27,40,48,49,50,51,116,120] [(50, .lit (.int .i64 (i : Int))), (10, .lit (.int .i64 b))] [(0, .ptr m 0 0), (3, .ptr k 0 0), (6, .lit (.int .i64 p.1)), (7, .lit (.int .i64 p.2)), (48, .sl tk 0 L.tl.length), (49, .lit (.int .i64 (L.tl.length : Int)))]) ((k, ⟨8, true, [opc o]⟩) :: MH m tk L) := by
  have hnt := hS.nt
  have hcp := hS.cpus
  have hnu := hS.nu
  have hn1 := hS.n1
  have hn64 := hS.n64
  have hns := hS.ns
  have hneg : ((c : Int) < 0) = False := eq_false (by omega)
  have hO : opc o = [.lit (.int .u8 o.kind), .lit (.int .i64 (c : Int)), .lit (.int .i64 o.task), .lit (.int .i64 o.group), .lit (.int .i64 o.weight), .lit (.int .i64 o.to), .lit (.int .i64 o.ticks), .lit (.int .u64 o.mask)] := by rw [← hc]; rfl
  obtain ⟨NM, eNM⟩ : ∃ x, x = (MH m tk L).map (·.1) := ⟨_, rfl⟩
  have hNM : nub (NM.map (fun i => if k ≤ i then i - k + 1 else 0)) = [0] := by rw [eNM]; exact MH_names hm hk (fun i hi => if_neg (by omega))
  have hT := hS.tk i hi2
  have hTe := hT.e
  simp only [ent, decide_eq_true_eq] at hTe
  obtain ⟨d, hd⟩ : ∃ d : Nat, (L.tsk i).cpu = (d : Int) := ⟨(L.tsk i).cpu.toNat, by have := hT.c0; omega⟩
  have hdn : d < n := by have := hT.c1; omega
  have hmb : IntKind.u64.wrap ((BitVec.ofInt IntKind.u64.bits ((L.tsk i).mask.fdiv (2 ^ min c 64)) &&& BitVec.ofInt IntKind.u64.bits 1).toNat : Int) = (L.tsk i).mask / 2 ^ c % 2 := by
    have := mask_bit (x := (L.tsk i).mask) (c := (c : Int)) hT.m0 hT.m1 (by omega) (by omega)
    rwa [Int.toNat_natCast] at this
  have hmay : mayP L c p.1 i ↔ (L.tsk i).ready = true ∧ (d : Int) = p.1 ∧ (L.tsk i).mask / 2 ^ c % 2 = 1 ∧ L.cur d ≠ (L.tsk i).id := by unfold mayP; rw [hd, Int.toNat_natCast]
  have hw2 : IntKind.i64.wrap (2 * (L.tsk i).weight) = 2 * (L.tsk i).weight := wrap_i64 (by omega) (by omega)
  obtain ⟨V, eV⟩ : ∃ V, V = IntKind.i64.wrap (p.2 - W) := ⟨_, rfl⟩
  have eV2 := eV.symm
  have hcan : canP L p.2 W i b ↔ 2 * (L.tsk i).weight ≤ V ∧ (b < 0 ∨ (L.tsk b.toNat).weight < (L.tsk i).weight) := by unfold canP; rw [← eV]
  rw [hO] at hN ⊢
  simp only [MH, LH]
  try (simp -dsimp -implicitDefEqProofs (disch := omega) only [go_sem, nq0, eq_self, ↓reduceIte])
  obtain ⟨r1, r2, r3, r4⟩ := hmay.1 hyes
  rw [← eV] at hca
  subst hb
  have q1 : (2 * (L.tsk i).weight ≤ V) = True := eq_true hca
  have q3 : ((y : Int) < 0) = False := eq_false (by omega)
  have q4 : ((L.tsk y).weight < (L.tsk i).weight) = True := eq_true q2
  have r2b : ((d : Int) == p.1) = true := by rw [beq_iff_eq]; exact r2
  have r4b : (L.cur d != (L.tsk i).id) = true := by simp [r4]
  have kp : Kp [0,1,3,4,5,6,7,8,9,10,11,12,13,14,19,25,26,27,40,48,49,50,51,116,120] (fun i => if k ≤ i then i - k + 1 else 0) := kpI
  have uU := zA @hd (zA @hmb (zA @hneg (zA @hNM (zA @hw2 (zA @eV2 (zA @r1 (zA @r2b (zA @r3 (zA @r4b (zA @q1 (zA @q3 @q4)))))))))))
  refine wlL ?_; refine zq1 ⟨fun ht => ⟨⟨?_⟩⟩⟩
  refine dlL [.raw (some 95) ⟨.lit (.int .i64 W), k + 2, [], NM⟩] ?_; refine zq2 ⟨⟨⟨?_⟩⟩⟩ ⟨⟨⟨?_⟩⟩⟩
  all_goals (first | exact lend (loc := [(k + 1, ⟨8, true, _⟩), (k, ⟨8, true, _⟩)]) hm rfl (by kernel_rfl) rfl rfl rfl (fun x hx => by simp only [List.mem_cons, List.not_mem_nil, or_false] at hx; rcases hx with hx | hx <;> rw [hx] <;> simp only [] <;> omega) hwp eNM | skip)
  all_goals ((refine wlL ?_; refine zq1 ⟨fun ht => ⟨⟨?_⟩⟩⟩))
  all_goals (refine hN _ _ _ ?_)
  all_goals (try (simp only [MH, LH]))
  all_goals (try (simp -dsimp -implicitDefEqProofs (disch := omega) only [go_sem, nq0, hd, hmb, hneg, hNM, hw2, eV2, r1, r2b, r3, r4b, q1, q3, q4, eq_self, ↓reduceIte]))
  all_goals (exact wkD)
end Go.Proofs.T
end
