import Derived.Test.YtkiadljldlppbaaGreatDoorZAP
set_option linter.unusedVariables false
set_option linter.unusedSimpArgs false
section
namespace Go.Proofs.T
open Go Go.AM Go.Proofs
set_option maxRecDepth 20000
variable {Γ : List (Nat × List AVal)}
theorem MH_lv {m tk c i : Nat} {L : LSt} : MH m tk (L.lv c i) = (m, ⟨8, false, [mrow m tk L]⟩) :: (m + 1, ⟨2, true, glR L⟩) :: (m + 2, ⟨1, true, klR L⟩) :: (m + 3, ⟨1, true, (ulR L).set c [.lit (.int .i64 0)]⟩) :: (m + 5, ⟨1, false, ouR m L⟩) :: (tk, ⟨8, true, (tlR L).set i (tkc (L.tsk i).slp)⟩) :: fam (m + 6) 3 L.sl.length (slR L) := by
  rw [LSt.lv, MH_setT]
  have e1 : ulR (L.setU c 0) = (ulR L).set c [.lit (.int .i64 0)] := setU_rows
  have e2 : mrow m tk (L.setU c 0) = mrow m tk L := by simp [mrow, LSt.setU]
  rw [e1, e2]
  rfl
set_option maxHeartbeats 8000000 in
theorem leave (L : LSt) (n : Nat) (hS : Rt0 L n) (o : Opn) (m tk k : Nat) (hm : m + 6 + L.sl.length ≤ tk) (hk : tk < k) : OpOk Γ 33 L n o m tk k := by
  have hnt := hS.nt
  have hcp := hS.cpus
  have hnu := hS.nu
  have hn64 := hS.n64
  have hns := hS.ns
  have hcpu := cpu L o.cpu m tk (k + 1) hm (by omega) (Γ := Γ)
  by_cases h1 : 0 ≤ o.cpu ∧ o.cpu < L.cpus
  rotate_left
  · rw [decide_eq_false h1] at hcpu
    refine ⟨L, 0, 300, tk, k, hS, ⟨Fwd.refl L, .inr rfl⟩, hm, ⟨hk, .inl rfl⟩, Nat.le_refl _, ?_⟩
    obtain ⟨RH, eRH⟩ : ∃ x : Heap, x = MH m tk L := ⟨_, rfl⟩; obtain ⟨RV, eRV⟩ : ∃ x : AVal, x = res2 (0) 300 := ⟨_, rfl⟩; refine Tr.mono (Tr_in (k := k) (V := RV) (RH := RH) (by omega) (by rw [eRV]; rfl) (by rw [eRH]; exact MH_lt (by omega) (by omega)) ?_) (fun _ _ _ h => ⟨h.1, h.2.1.trans eRV, h.2.2.trans eRH⟩)
    refine Tr_at Tryz.func33 rfl 60 rfl (Nat.le_of_ble_eq_true rfl) ?_
    simp only [MH, LH]
    have kp : Kp [0,1,3,4,5,6,7,12,23,45] (fun i => if k ≤ i then i - k + 1 else 0) := kpI
    refine wlL ?_; refine zq1 ⟨⟨⟨?_⟩⟩⟩
    refine clL [.far (.lit (.bool false)) (k + 1) [(k, ⟨8, true, [opc o]⟩)] (MH m tk L) (MH m tk L)] ?_; refine zq3 ⟨⟨⟨?_⟩⟩⟩ ⟨⟨⟨?_⟩⟩⟩ ⟨⟨⟨?_⟩⟩⟩
    · intro q; simp only [MH, LH, mrow, opc, List.cons_append, List.nil_append]
    · exact MH_apart (fun i hi => by simp only [AM.look]; repeat (rw [if_neg (by omega)])) rfl
    simp only [MH, LH]
    refine rRL ?_; apply zN
    refine wlL ?_; refine zq1 ⟨fun ht => ⟨⟨?_⟩⟩⟩
    have uU := Go.AM.uU; refine cRD ?_; apply zN
    refine ⟨?_, ?_⟩
    · rw [eRV]; rfl
    · rw [eRH]
      simp only [MH, LH]
      exact rRL hdT
  rw [decide_eq_true h1] at hcpu
  obtain ⟨c, hc⟩ : ∃ c : Nat, o.cpu = (c : Int) := ⟨o.cpu.toNat, by omega⟩
  rw [hc] at hcpu
  have hcn : c < n := by omega
  have hO : opc o = [.lit (.int .u8 o.kind), .lit (.int .i64 (c : Int)), .lit (.int .i64 o.task), .lit (.int .i64 o.group), .lit (.int .i64 o.weight), .lit (.int .i64 o.to), .lit (.int .i64 o.ticks), .lit (.int .u64 o.mask)] := by rw [← hc]; rfl
  by_cases h4 : L.cur c = 0
  · refine ⟨L, 0, 6, tk, k, hS, ⟨Fwd.refl L, .inr rfl⟩, hm, ⟨hk, .inl rfl⟩, Nat.le_refl _, ?_⟩
    obtain ⟨RH, eRH⟩ : ∃ x : Heap, x = MH m tk L := ⟨_, rfl⟩; obtain ⟨RV, eRV⟩ : ∃ x : AVal, x = res2 (0) 6 := ⟨_, rfl⟩; refine Tr.mono (Tr_in (k := k) (V := RV) (RH := RH) (by omega) (by rw [eRV]; rfl) (by rw [eRH]; exact MH_lt (by omega) (by omega)) ?_) (fun _ _ _ h => ⟨h.1, h.2.1.trans eRV, h.2.2.trans eRH⟩)
    refine Tr_at Tryz.func33 rfl 60 rfl (Nat.le_of_ble_eq_true rfl) ?_
    simp only [MH, LH]
    have kp : Kp [0,1,3,4,5,6,7,12,23,45] (fun i => if k ≤ i then i - k + 1 else 0) := kpI
    have uU := zA @hc @h4
    refine wlL ?_; refine zq1 ⟨⟨⟨?_⟩⟩⟩
    refine clL [.far (.lit (.bool true)) (k + 1) [(k, ⟨8, true, [opc o]⟩)] (MH m tk L) (MH m tk L)] ?_; refine zq3 ⟨⟨⟨?_⟩⟩⟩ ⟨⟨⟨?_⟩⟩⟩ ⟨⟨⟨?_⟩⟩⟩
    · intro q; simp only [MH, LH, mrow, opc, hc, List.cons_append, List.nil_append]
    · exact MH_apart (fun i hi => by simp only [AM.look]; repeat (rw [if_neg (by omega)])) rfl
    simp only [MH, LH]
    refine rRL ?_; apply zN
    refine wlL ?_; refine zq1 ⟨fun ht ht => ⟨⟨?_⟩⟩⟩
    have uU := zA @hc @h4; refine cRD ?_; apply zN
    refine ⟨?_, ?_⟩
    · rw [eRV]; rfl
    · rw [eRH]
      simp only [MH, LH]
      exact rRL hdT
  obtain ⟨i, hi, hir, hic, hid⟩ := (hS.cur c hcn).resolve_left h4
  have hfc := find L (L.cur c) i (.inr ⟨i, hi, rfl, hid⟩) hS.sorted (by omega) m tk (k + 1) hm (by omega) (Γ := Γ)
  obtain ⟨hV, hVF, hVc⟩ := lv_ok hS hcn hi hid hic
  have eMH := MH_lv (m := m) (tk := tk) (c := c) (i := i) (L := L)
  simp only [mrow, tkc, Tk.slp] at eMH
  obtain ⟨Kx, eK⟩ : ∃ Kx, Kx = L.lv c i := ⟨_, rfl⟩
  rw [← eK] at eMH hV hVF hVc
  have hKs : Kx.sl.length = L.sl.length := hVF.ns
  have hKi : i < Kx.tl.length := by rw [eK]; show i < (L.setU c 0 |>.setT i _).tl.length; rw [setT_len]; exact hi
  have hKd : (Kx.tsk i).id = (L.tsk i).id := by rw [eK, LSt.lv, setT_tsk (by exact hi), if_pos rfl]; rfl
  have hsett : ∀ x, ((tlR L).set i x)[i]? = some x := fun x => List.getElem?_set_self (by rw [tlR_len]; exact hi)
  by_cases h5 : o.kind = 4
  rotate_left
  · refine ⟨Kx, L.cur c, 0, tk, k, hV, ⟨hVF, .inl rfl⟩, hm, ⟨hk, .inl rfl⟩, Nat.le_refl _, ?_⟩
    obtain ⟨RH, eRH⟩ : ∃ x : Heap, x = MH m tk Kx := ⟨_, rfl⟩; obtain ⟨RV, eRV⟩ : ∃ x : AVal, x = res2 (L.cur c) 0 := ⟨_, rfl⟩; refine Tr.mono (Tr_in (k := k) (V := RV) (RH := RH) (by omega) (by rw [eRV]; rfl) (by rw [eRH]; exact MH_lt (by omega) (by omega)) ?_) (fun _ _ _ h => ⟨h.1, h.2.1.trans eRV, h.2.2.trans eRH⟩)
    refine Tr_at Tryz.func33 rfl 60 rfl (Nat.le_of_ble_eq_true rfl) ?_
    simp only [MH, LH]
    have kp : Kp [0,1,3,4,5,6,7,12,23,45] (fun i => if k ≤ i then i - k + 1 else 0) := kpI
    have uU := zA @hc @hsett
    refine wlL ?_; refine zq1 ⟨⟨⟨?_⟩⟩⟩
    refine clL [.far (.lit (.bool true)) (k + 1) [(k, ⟨8, true, [opc o]⟩)] (MH m tk L) (MH m tk L)] ?_; refine zq3 ⟨⟨⟨?_⟩⟩⟩ ⟨⟨⟨?_⟩⟩⟩ ⟨⟨⟨?_⟩⟩⟩
    · intro q; simp only [MH, LH, mrow, opc, hc, List.cons_append, List.nil_append]
    · exact MH_apart (fun i hi => by simp only [AM.look]; repeat (rw [if_neg (by omega)])) rfl
    simp only [MH, LH]
    refine rRL ?_; apply zN
    refine wlL ?_; refine zq1 ⟨fun ht ht => ⟨⟨?_⟩⟩⟩
    refine clL [.far (.lit (.int .i64 (i : Int))) (k + 1) [(k, ⟨8, true, [opc o]⟩)] (MH m tk L) (MH m tk L)] ?_; refine zq3 ⟨⟨⟨?_⟩⟩⟩ ⟨⟨⟨?_⟩⟩⟩ ⟨⟨⟨?_⟩⟩⟩
    · intro q; simp only [MH, LH, mrow, opc, hc, List.cons_append, List.nil_append]
    · exact MH_apart (fun i hi => by simp only [AM.look]; repeat (rw [if_neg (by omega)])) rfl
    simp only [MH, LH]
    refine rRL ?_; apply zN
    refine wlL ?_; refine zq1 ⟨fun ht => ⟨⟨?_⟩⟩⟩
    rw [← eMH]
    refine wlL ?_; refine zq1 ⟨⟨⟨?_⟩⟩⟩
    have uU := zA @hc @hsett; refine cRD ?_; apply zN
    refine ⟨?_, ?_⟩
    · rw [eRV]; rfl
    · rw [eRH]
      simp only [MH, LH]
      exact rRL hdT
  · obtain ⟨hD, hDF⟩ := del_ok hV hKi (fun d hd => by rw [hKd]; exact hVc d hd)
    have hDs : (Kx.del i).sl.length = L.sl.length := hKs
    have hsd := sdelete (tlR Kx) Kx.tl.length i tk (k + 1) (tlR_len _) hKi (by have := hV.nt; omega) (tlR_one _) (by omega) (Γ := Γ)
    have hie : IntKind.i64.wrap ((i : Int) + 1) = (i : Int) + 1 := wrap_i64 (by omega) (by omega)
    have hle : (Kx.del i).tl.length = Kx.tl.length - 1 := del_len hKi
    refine ⟨Kx.del i, L.cur c, 0, tk, k, hD, ⟨hVF.trans hDF (.inr (by rw [eK]; show (L.setU c 0 |>.setT i _).tl.length ≤ _; rw [setT_len]; exact Nat.le_refl _)), .inl rfl⟩, hm, ⟨hk, .inl rfl⟩, Nat.le_refl _, ?_⟩
    obtain ⟨RH, eRH⟩ : ∃ x : Heap, x = MH m tk (Kx.del i) := ⟨_, rfl⟩; obtain ⟨RV, eRV⟩ : ∃ x : AVal, x = res2 (L.cur c) 0 := ⟨_, rfl⟩; refine Tr.mono (Tr_in (k := k) (V := RV) (RH := RH) (by omega) (by rw [eRV]; rfl) (by rw [eRH]; exact MH_lt (by omega) (by omega)) ?_) (fun _ _ _ h => ⟨h.1, h.2.1.trans eRV, h.2.2.trans eRH⟩)
    refine Tr_at Tryz.func33 rfl 60 rfl (Nat.le_of_ble_eq_true rfl) ?_
    simp only [MH, LH]
    have kp : Kp [0,1,3,4,5,6,7,12,23,45] (fun i => if k ≤ i then i - k + 1 else 0) := kpI
    have uU := zA @hc (zA @hsett (zA @h5 @hie))
    refine wlL ?_; refine zq1 ⟨⟨⟨?_⟩⟩⟩
    refine clL [.far (.lit (.bool true)) (k + 1) [(k, ⟨8, true, [opc o]⟩)] (MH m tk L) (MH m tk L)] ?_; refine zq3 ⟨⟨⟨?_⟩⟩⟩ ⟨⟨⟨?_⟩⟩⟩ ⟨⟨⟨?_⟩⟩⟩
    · intro q; simp only [MH, LH, mrow, opc, hc, h5, List.cons_append, List.nil_append]
    · exact MH_apart (fun i hi => by simp only [AM.look]; repeat (rw [if_neg (by omega)])) rfl
    simp only [MH, LH]
    refine rRL ?_; apply zN
    refine wlL ?_; refine zq1 ⟨fun ht ht => ⟨⟨?_⟩⟩⟩
    refine clL [.far (.lit (.int .i64 (i : Int))) (k + 1) [(k, ⟨8, true, [opc o]⟩)] (MH m tk L) (MH m tk L)] ?_; refine zq3 ⟨⟨⟨?_⟩⟩⟩ ⟨⟨⟨?_⟩⟩⟩ ⟨⟨⟨?_⟩⟩⟩
    · intro q; simp only [MH, LH, mrow, opc, hc, h5, List.cons_append, List.nil_append]
    · exact MH_apart (fun i hi => by simp only [AM.look]; repeat (rw [if_neg (by omega)])) rfl
    simp only [MH, LH]
    refine rRL ?_; apply zN
    refine wlL ?_; refine zq1 ⟨fun ht => ⟨⟨?_⟩⟩⟩
    rw [← eMH]
    simp only [MH, LH]
    have uU := zA @hc (zA @h5 @hie)
    refine wlL ?_; refine zq1 ⟨⟨⟨?_⟩⟩⟩
    refine clL [.gen (.sl tk 0 (Kx.tl.length - 1)) (k + 1) [(tk, ⟨8, true, tlR Kx⟩)] [(tk, ⟨8, true, (tlR Kx).eraseIdx i⟩)]] ?_; refine zq1 ⟨⟨⟨?_⟩⟩⟩
    refine wlL ?_; refine zq1 ⟨⟨⟨?_⟩⟩⟩
    have uU := zA @hc (zA @h5 @hie); refine cRD ?_; apply zN
    refine ⟨?_, ?_⟩
    · rw [eRV]; rfl
    · rw [eRH, MH_del hKi]
      exact rRL hdT
end Go.Proofs.T
end
section
namespace Go.Proofs.T
open Go Go.AM Go.Proofs
set_option maxRecDepth 20000
variable {Γ : List (Nat × List AVal)}
set_option maxHeartbeats 4000000 in
theorem sinsert (R : List (List AVal)) (row : List AVal) (n i tk vb k : Nat) (hn : R.length = n) (hi : i ≤ n) (hn2 : n ≤ 100000) (hone : (R.all fun row => row.all AM.one) = true) (hone1 : row.all AM.one = true) (hne : tk ≠ vb) (hk : tk < k) (hk2 : vb < k) :
    Tr Tryz.prog Γ 74 k [.sl tk 0 n, .lit (.int .i64 (i : Int)), .sl vb 0 1] [(tk, ⟨8, true, R⟩), (vb, ⟨8, true, [row]⟩)] (fun k1 r1 H1 => k1 = k + 1 ∧ r1 = .sl k 0 (n + 1) ∧ H1 = [(k, ⟨8, true, insR R i row⟩)]) := by
  obtain ⟨RH, eRH⟩ : ∃ x : Heap, x = [(k, ⟨8, true, insR R i row⟩)] := ⟨_, rfl⟩
  refine Tr.mono (Tr_in (kk := k + 1) (V := .sl k 0 (n + 1)) (RH := RH) (by omega) (by simp [bd, bd1, bd0, ltB]) (by rw [eRH]; exact bdH_cons1 (by simp only [ltB, decide_eq_true_eq]; omega) rfl) ?_) (fun _ _ _ h => ⟨h.1, h.2.1, h.2.2.trans eRH⟩)
  by_cases hin : i = n
  · subst hin
    have eI : insR R i row = R ++ [row] := by unfold insR; rw [List.take_of_length_le (by omega), List.drop_eq_nil_of_le (by omega)]
    rw [eI] at eRH
    refine Tr_at Tryz.func74 rfl 95 rfl (Nat.le_of_ble_eq_true rfl) ?_
    have kp : Kp [0,1,2,6,7,8,9,16,22,31,68] (fun i => i - k) := kpI
    refine wlD ?_; refine zq1 ⟨fun ht ht => ⟨⟨?_⟩⟩⟩
    have uU := Go.AM.uU; refine cRD ?_; apply zN
    refine ⟨rfl, ?_⟩
    rw [eRH]
    exact rRD hdT
  · have hI : ∀ X : List (List AVal), (∀ q, X[q]? = (insR R i row)[q]?) → X = insR R i row := fun X h => List.ext_getElem? h
    have hg : ∀ q, (insR R i row)[q]? = if q < i then R[q]? else if q = i then some row else R[q - 1]? := insR_get? (by omega)
    refine Tr_at Tryz.func74 rfl 95 rfl (Nat.le_of_ble_eq_true rfl) ?_
    obtain ⟨q, hq⟩ : ∃ q : Nat, q = n + 1 - i := ⟨_, rfl⟩
    have e1 : IntKind.i64.wrap ((n : Int) + 1) = (n : Int) + 1 := wrap_i64 (by omega) (by omega)
    have e2 : IntKind.i64.wrap ((i : Int) + 1) = (i : Int) + 1 := wrap_i64 (by omega) (by omega)
    have e3 : IntKind.i64.wrap ((n : Int) + 1 - (i : Int)) = (q : Int) := by rw [wrap_i64 (by omega) (by omega)]; omega
    have kp : Kp [0,1,2,6,7,8,9,16,22,31,68] (fun i => i - k) := kpI
    have uU := zA @e1 (zA @e2 @e3)
    refine wlD ?_; refine zq1 ⟨fun ht ht => ⟨⟨?_⟩⟩⟩
    refine W_cap 0 rfl (look_one) (fun h => by omega) (fun cap hc1 hc2 => ?_)
    refine rRD ?_; apply zN
    refine clD [.raw (some 30) ⟨.lit (.int .i64 (cap : Int)), k, [], [tk]⟩] ?_; refine zq2 ⟨⟨⟨?_⟩⟩⟩ ⟨⟨⟨?_⟩⟩⟩
    · exact cap_good rfl (by kernel_rfl) rfl (look_one)
    refine wlD ?_; refine zq2 ⟨fun ht => ⟨⟨?_⟩⟩⟩ ⟨fun ht => ⟨⟨?_⟩⟩⟩
    · obtain ⟨X1, eX1⟩ : ∃ X1 : List (List AVal), X1 = R.take i ++ List.replicate q ztk := ⟨_, rfl⟩
      have hX1 : X1.length = n + 1 := by rw [eX1]; simp; omega
      obtain ⟨X2, eX2⟩ : ∃ X2 : List (List AVal), X2 = setRows X1 [row] i := ⟨_, rfl⟩
      have hX2 : X2.length = n + 1 := by rw [eX2, setRows_len (by simp; omega), hX1]
      have hX3 : setRows X2 (((R.drop i).take (n - i)).take (n - i)) (i + 1) = insR R i row := hI _ fun p => by
        rw [hg, setRows_get? (by omega), List.take_take, Nat.min_self, List.take_of_length_le (by simp; omega), List.length_drop, hn]
        by_cases h1 : p < i
        · rw [if_pos (by omega), if_pos h1, eX2, setRows_get? (by omega), if_pos h1, eX1, List.getElem?_append, if_pos (by simp; omega), List.getElem?_take, if_pos h1]
        · rw [if_neg h1]
          by_cases h2 : p = i
          · rw [if_pos (by omega), if_pos h2, eX2, setRows_get? (by omega), if_neg h1, if_pos (by simp; omega), h2]; simp
          · rw [if_neg (by omega), if_neg h2]
            by_cases h3 : p < i + 1 + (n - i)
            · rw [if_pos h3, List.getElem?_drop]; congr 1; omega
            · rw [if_neg h3, List.getElem?_eq_none (by omega), List.getElem?_eq_none (by omega)]
      refine clD [.raw (some 34) ⟨.slc tk 0 i cap, k, [], [tk]⟩, .raw (some 40) ⟨.sl k 0 (n + 1), k + 1, [(k, some ⟨8, true, X1⟩)], [tk]⟩] ?_; refine zq3 ⟨⟨⟨?_⟩⟩⟩ ⟨⟨⟨?_⟩⟩⟩ ⟨⟨⟨?_⟩⟩⟩
      · exact slc_goodE rfl (look_one) (by kernel_rfl) rfl rfl rfl (by omega) (by omega) (by omega) (by omega) (by omega) (by omega)
      · rw [eX1]
        exact appz_goodE (kn := .i64) rfl y7 (by kernel_rfl) rfl (look_one) rfl rfl (by omega) (by omega) (by omega) (by omega) (by show 0 + i ≤ R.length; omega) rfl (by omega) rfl
      refine wlD ?_; refine zq1 ⟨⟨⟨?_⟩⟩⟩
      refine clD [.raw (some 45) ⟨.lit (.int .i64 1), k + 1, [(k, some ⟨8, true, X2⟩)], [k, vb]⟩] ?_; refine zq2 ⟨⟨⟨?_⟩⟩⟩ ⟨⟨⟨?_⟩⟩⟩
      · exact copy_goodE (B := ⟨8, true, X1⟩) 1 rfl y7 rfl (by simp (disch := omega) only [AM.look, nq0, ↓reduceIte]) rfl rfl (.sl (B := ⟨8, true, [row]⟩) (by simp (disch := omega) only [AM.look, nq0, ↓reduceIte]) (by show 0 + 1 ≤ 1; omega)) (by simp only [List.drop_zero, List.take_succ_cons, List.take_zero, List.all_cons, List.all_nil, hone1, Bool.and_true]) (by show 1 = min 1 _; omega) (by omega) (by show i + _ ≤ X1.length; omega) rfl (by rw [eX2]; rfl)
      refine wlD ?_; refine zq1 ⟨⟨⟨?_⟩⟩⟩
      refine dlD [.raw (some 53) ⟨.slc tk i (n - i) (cap - i), k + 1, [], [tk]⟩, .raw (some 54) ⟨.lit (.int .i64 ((n - i : Nat) : Int)), k + 1, [(k, some ⟨8, true, insR R i row⟩)], [k, tk]⟩] ?_; refine zq3 ⟨⟨⟨?_⟩⟩⟩ ⟨⟨⟨?_⟩⟩⟩ ⟨⟨⟨?_⟩⟩⟩
      · exact slc_goodE rfl (look_one) (by kernel_rfl) rfl rfl rfl (by omega) (by omega) (by omega) (by omega) (by omega) (by omega)
      · rw [← hX3]
        refine copy_goodE (B := ⟨8, true, X2⟩) (n - i) rfl y7 rfl (by simp (disch := omega) only [AM.look, nq0, ↓reduceIte]) rfl rfl (.sl (B := ⟨8, true, R⟩) (by simp (disch := omega) only [AM.look, nq0, ↓reduceIte]) (by show i + (n - i) ≤ R.length; omega)) ?_ ?_ (by omega) (by show ((i : Int) + 1).toNat + _ ≤ X2.length; omega) rfl ?_
        · rw [List.all_eq_true] at hone ⊢
          exact fun row h => hone row (List.mem_of_mem_drop (List.mem_of_mem_take (List.mem_of_mem_take h)))
        · show n - i = min (n - i) _; omega
        · rw [show ((i : Int) + 1).toNat = i + 1 by omega]
      refine wlD ?_; refine zq1 ⟨⟨⟨?_⟩⟩⟩
      have uU := zA @e1 (zA @e2 @e3); refine cRD ?_; apply zN
      refine ⟨rfl, ?_⟩
      rw [eRH]
      exact rRD hdT
    · obtain ⟨J, eJ⟩ : ∃ J : List AVal, J = List.replicate 8 .junk := ⟨_, rfl⟩
      obtain ⟨X1, eX1⟩ : ∃ X1 : List (List AVal), X1 = R ++ [J] := ⟨_, rfl⟩
      have hX1 : X1.length = n + 1 := by rw [eX1]; simp; omega
      have hX1g : ∀ p, p < n → X1[p]? = R[p]? := fun p hp => by rw [eX1, List.getElem?_append, if_pos (by omega)]
      obtain ⟨X2, eX2⟩ : ∃ X2 : List (List AVal), X2 = setRows X1 (((X1.drop i).take (n + 1 - i)).take (n - i)) (i + 1) := ⟨_, rfl⟩
      have hl2 : (((X1.drop i).take (n + 1 - i)).take (n - i)).length = n - i := by simp; omega
      have hX2 : X2.length = n + 1 := by rw [eX2, setRows_len (by rw [hl2]; omega), hX1]
      have hX3 : setRows X2 [row] i = insR R i row := hI _ fun p => by
        rw [hg, setRows_get? (by omega)]
        by_cases h1 : p < i
        · rw [if_pos h1, if_pos h1, eX2, setRows_get? (by omega), if_pos (by omega), hX1g p (by omega)]
        · rw [if_neg h1, if_neg h1]
          by_cases h2 : p = i
          · rw [if_pos (by simp; omega), if_pos h2, h2]; simp
          · rw [if_neg (by simp; omega), if_neg h2, eX2, setRows_get? (by omega), if_neg (by omega), hl2]
            by_cases h3 : p < i + 1 + (n - i)
            · rw [if_pos h3, List.getElem?_take, if_pos (by omega), List.getElem?_take, if_pos (by omega), List.getElem?_drop, show i + (p - (i + 1)) = p - 1 by omega, hX1g (p - 1) (by omega)]
            · rw [if_neg h3, List.getElem?_eq_none (by omega), List.getElem?_eq_none (by omega)]
      have hone2 : ((((X1.drop i).take (n + 1 - i)).take (n - i)).all fun row => row.all AM.one) = true := by
        rw [List.all_eq_true] at hone ⊢
        intro r hr
        obtain ⟨p, hp⟩ := List.getElem?_of_mem hr
        rw [List.getElem?_take] at hp
        split at hp
        · rw [List.getElem?_take, if_pos (by omega), List.getElem?_drop, hX1g _ (by omega)] at hp
          exact hone r (List.mem_of_getElem? hp)
        · cases hp
      refine clD [.raw (some 60) ⟨.slc tk 0 (n + 1) cap, k, [(tk, some ⟨8, true, X1⟩)], [tk]⟩] ?_; refine zq2 ⟨⟨⟨?_⟩⟩⟩ ⟨⟨⟨?_⟩⟩⟩
      · exact slc_growE (B := ⟨8, true, R⟩) (e := 1) rfl (look_one) (by kernel_rfl) rfl rfl rfl (by omega) (by omega) (by omega) (by show R.length + 1 ≤ 0 + cap; omega) (by omega) (by omega) (by omega) (by rw [eX1, eJ]; rfl)
      refine wlD ?_; refine zq1 ⟨⟨⟨?_⟩⟩⟩
      refine clD [.raw (some 66) ⟨.slc tk (i + 1) (n - i) (cap - (i + 1)), k, [], [tk]⟩, .raw (some 67) ⟨.lit (.bool false), k, [], [vb, tk]⟩] ?_; refine zq3 ⟨⟨⟨?_⟩⟩⟩ ⟨⟨⟨?_⟩⟩⟩ ⟨⟨⟨?_⟩⟩⟩
      · exact slc_goodE rfl (look_one) (by kernel_rfl) rfl rfl rfl (by omega) (by omega) (by omega) (by omega) (by omega) (by omega)
      · exact overlaps_good (s := 8) (e := 70) (B1 := ⟨8, true, [row]⟩) (B2 := ⟨8, true, X1⟩) rfl rfl rfl rfl rfl rfl rfl rfl (by kernel_rfl) rfl rfl rfl (by omega) (by simp (disch := omega) only [AM.look, nq0, ↓reduceIte]) (look_one) (by omega) (by omega) (by show 0 < X1.length; omega) (by show 0 < 8; omega)
      refine wlD ?_; refine zq1 ⟨fun ht => ⟨⟨?_⟩⟩⟩
      · refine dlD [.raw (some 73) ⟨.slc tk (i + 1) (n - i) (cap - (i + 1)), k, [], [tk]⟩, .raw (some 76) ⟨.slc tk i (n + 1 - i) (cap - i), k, [], [tk]⟩, .raw (some 77) ⟨.lit (.int .i64 ((n - i : Nat) : Int)), k, [(tk, some ⟨8, true, X2⟩)], [tk, tk]⟩] ?_; refine zq4 ⟨⟨⟨?_⟩⟩⟩ ⟨⟨⟨?_⟩⟩⟩ ⟨⟨⟨?_⟩⟩⟩ ⟨⟨⟨?_⟩⟩⟩
        · exact slc_goodE rfl (look_one) (by kernel_rfl) rfl rfl rfl (by omega) (by omega) (by omega) (by omega) (by omega) (by omega)
        · exact slc_goodE rfl (look_one) (by kernel_rfl) rfl rfl rfl (by omega) (by omega) (by omega) (by omega) (by omega) (by omega)
        · exact good_deS (copy_goodE (B := ⟨8, true, X1⟩) (n - i) rfl y7 rfl (by simp (disch := omega) only [AM.look, nq0, ↓reduceIte]) rfl rfl (.sl (B := ⟨8, true, X1⟩) (by simp (disch := omega) only [AM.look, nq0, ↓reduceIte]) (by show i + (n + 1 - i) ≤ X1.length; omega)) hone2 (by show n - i = min (n + 1 - i) (n - i); omega) (by omega) (by show i + 1 + (n - i) ≤ X1.length; omega) rfl (by rw [eX2]))
        refine wlD ?_; refine zq1 ⟨⟨⟨?_⟩⟩⟩
        refine clD [.raw (some 80) ⟨.slc tk i (n + 1 - i) (cap - i), k, [], [tk]⟩, .raw (some 82) ⟨.lit (.int .i64 1), k, [(tk, some ⟨8, true, insR R i row⟩)], [tk, vb]⟩] ?_; refine zq3 ⟨⟨⟨?_⟩⟩⟩ ⟨⟨⟨?_⟩⟩⟩ ⟨⟨⟨?_⟩⟩⟩
        · exact slc_goodE rfl (look_one) (by kernel_rfl) rfl rfl rfl (by omega) (by omega) (by omega) (by omega) (by omega) (by omega)
        · exact good_deS (copy_goodE (B := ⟨8, true, X2⟩) 1 rfl y7 rfl (by simp (disch := omega) only [AM.look, nq0, ↓reduceIte]) rfl rfl (.sl (B := ⟨8, true, [row]⟩) (by simp (disch := omega) only [AM.look, nq0, ↓reduceIte]) (by show 0 + 1 ≤ 1; omega)) (by simp only [List.drop_zero, List.take_succ_cons, List.take_zero, List.all_cons, List.all_nil, hone1, Bool.and_true]) (by show 1 = min 1 _; omega) (by omega) (by show i + (n + 1 - i) ≤ X2.length; omega) rfl (by rw [← hX3]; rfl))
        refine wlD ?_; refine zq1 ⟨⟨⟨?_⟩⟩⟩
        refine W_mv (Mv.fresh tk (by omega)) ?_
        refine rRD ?_; apply zN
        refine W_mv (slc_lt 6 rfl) ?_
        refine rRD ?_; apply zN
        have uU := zA @e1 (zA @e2 @e3); refine cRD ?_; apply zN
        refine ⟨rfl, ?_⟩
        rw [eRH]
        exact rRD hdT
end Go.Proofs.T
end
section
namespace Go.Proofs.T
open Go Go.AM Go.Proofs
set_option maxRecDepth 20000
variable {Γ : List (Nat × List AVal)}
theorem mwide (x : Int) (n : Nat) (h1 : 1 ≤ n) (h2 : n ≤ 64) (hx : 0 ≤ x) (hx2 : x < 18446744073709551616) : Pure Tryz.prog Γ 68 [.lit (.int .u64 x), .lit (.int .i64 (n : Int))] (.lit (.bool (decide (x / 2 ^ n ≠ 0)))) := by
  obtain ⟨q, rfl⟩ : ∃ q, n = q + 1 := ⟨n - 1, by omega⟩
  have e1 : IntKind.i64.wrap ((q : Int) + 1 - 1) = (q : Int) := by rw [wrap_i64 (by omega) (by omega)]; omega
  have hp0 : 0 ≤ x / 2 ^ q := Int.ediv_nonneg hx (Int.pow_nonneg (by omega))
  have e2 : x.fdiv (2 ^ min q 64) = x / 2 ^ q := by rw [show min q 64 = q by omega, Int.fdiv_eq_ediv_of_nonneg _ (Int.pow_nonneg (by omega))]
  have e3 : (x / 2 ^ q).fdiv (2 ^ min 1 64) = x / 2 ^ (q + 1) := by rw [show (2 : Int) ^ min 1 64 = 2 from rfl, Int.fdiv_eq_ediv_of_nonneg _ (by omega), Int.ediv_ediv_of_nonneg (Int.pow_nonneg (by omega)), Int.pow_succ]
  have e4 : ((q : Int) < 0) = False := eq_false (by omega)
  refine Pure_at Tryz.func68 rfl 11 rfl (Nat.le_of_ble_eq_true rfl) rfl fun k => ?_
  have kp : Kp [0,1,4] (fun i => i - k) := kpI
  have uU := zA @e1 (zA @e2 (zA @e3 @e4))
  refine wlL ?_; refine zq1 ⟨⟨⟨?_⟩⟩⟩
  refine C_ret rfl ⟨_, rfl, VLe.of_eq ?_⟩
  simp
  rw [Bool.eq_iff_iff]
  simp
theorem spawn1 (x T : Tk) (t k : Nat) (hk : t < k) : Tr Tryz.prog Γ 73 k [.agg (tkc x), .ptr t 0 0] [(t, ⟨8, true, [tkc T]⟩)] (fun k1 r1 H1 => k1 = k ∧ r1 = .lit (.bool (decide (T.id < x.id))) ∧ H1 = [(t, ⟨8, true, [tkc T]⟩)]) := by
  obtain ⟨RH, eRH⟩ : ∃ y : Heap, y = [(t, ⟨8, true, [tkc T]⟩)] := ⟨_, rfl⟩
  refine Tr.mono (Tr_in (kk := k) (V := .lit (.bool (decide (T.id < x.id)))) (RH := RH) (by omega) rfl (by rw [eRH]; exact bdH_cons1 (by simp only [ltB, decide_eq_true_eq]; omega) rfl) ?_) (fun _ _ _ h => ⟨h.1, h.2.1, h.2.2.trans eRH⟩)
  refine Tr_at Tryz.func73 rfl 9 rfl (Nat.le_of_ble_eq_true rfl) ?_
  have kp : Kp [0,1,2,3] (fun i => i - k) := kpI
  refine wlL ?_; refine zq1 ⟨⟨⟨?_⟩⟩⟩
  have uU := Go.AM.uU; refine cRD ?_; apply zN
  refine ⟨?_, ?_⟩
  · first | rfl | simp
  · rw [eRH]
    exact rRL hdT
def PosGt (L : LSt) (id : Int) (p : Nat) : Prop := p ≤ L.tl.length ∧ (∀ q, q < p → (L.tsk q).id < id) ∧ ∀ q, p ≤ q → q < L.tl.length → id < (L.tsk q).id
set_option maxHeartbeats 2000000 in
theorem indexF (L : LSt) (T : Tk) (p : Nat) (hp : PosGt L T.id p) (hnt : L.tl.length ≤ 100000) (r : Int) (hr : r = if p < L.tl.length then (p : Int) else -1) (tk t k : Nat) (hk : tk < k) (hk2 : t < k) (hne : tk ≠ t) :
    Tr Tryz.prog Γ 72 k [.sl tk 0 L.tl.length, .fn 73 [.ptr t 0 0]] [(tk, ⟨8, true, tlR L⟩), (t, ⟨8, true, [tkc T]⟩)]
      (fun k1 r1 H1 => k1 = k ∧ r1 = .lit (.int .i64 r) ∧ H1 = [(tk, ⟨8, true, tlR L⟩), (t, ⟨8, true, [tkc T]⟩)]) := by
  obtain ⟨RH, eRH⟩ : ∃ y : Heap, y = [(tk, ⟨8, true, tlR L⟩), (t, ⟨8, true, [tkc T]⟩)] := ⟨_, rfl⟩
  obtain ⟨RV, eRV⟩ : ∃ y : AVal, y = .lit (.int .i64 r) := ⟨_, rfl⟩
  refine Tr.mono (Tr_in (kk := k) (V := RV) (RH := RH) (by omega) (by rw [eRV]; rfl) (by rw [eRH]; exact bdH_cons1 (by simp only [ltB, decide_eq_true_eq]; omega) (bdH_cons1 (by simp only [ltB, decide_eq_true_eq]; omega) rfl)) ?_) (fun _ _ _ h => ⟨h.1, h.2.1.trans eRV, h.2.2.trans eRH⟩)
  refine Tr_at Tryz.func72 rfl 19 rfl (Nat.le_of_ble_eq_true rfl) ?_
  have kp : Kp [0,1,4,5,7,8,9,16] (fun i => i - k) := kpI
  refine wlL ?_; refine zq1 ⟨⟨⟨?_⟩⟩⟩
  refine M_forO (X := Nat) rfl [0,1,4,5,7,8,9,16] k (fun i => [(8, .lit (.int .i64 (i : Int)))]) (fun i => [(tk, ⟨8, true, tlR L⟩), (t, ⟨8, true, [tkc T]⟩)]) (fun i => i ≤ L.tl.length ∧ i ≤ p) (fun i => L.tl.length - i) 0 ?_ ⟨Nat.zero_le _, Nat.zero_le _⟩ ?_
  · refine rRL ?_; apply zN
    exact wkD
  rintro i ⟨hi, hip⟩
  refine rRL ?_; apply zN
  refine wlL ?_; refine zq2 ⟨fun ht => ⟨⟨?_⟩⟩⟩ ⟨fun ht => ⟨⟨?_⟩⟩⟩
  · refine clL [.gen (.lit (.bool (decide (T.id < (L.tsk i).id)))) k [(t, ⟨8, true, [tkc T]⟩)] [(t, ⟨8, true, [tkc T]⟩)]] ?_; refine zq2 ⟨⟨⟨?_⟩⟩⟩ ⟨⟨⟨?_⟩⟩⟩
    · exact spawn1 (L.tsk i) T t k hk2
    refine wlL ?_; refine zq2 ⟨fun ht => ⟨⟨?_⟩⟩⟩ ⟨fun ht => ⟨⟨?_⟩⟩⟩
    · have hge : p ≤ i := Nat.le_of_not_lt fun h => by have := hp.2.1 i h; omega
      have uU := Go.AM.uU; refine cRD ?_; apply zN
      refine ⟨?_, ?_⟩
      · rw [eRV, hr, if_pos (by omega), show p = i by omega]
      · rw [eRH]
        exact rRL hdT
    · have hge : i < p := Nat.lt_of_not_le fun h => by have := hp.2.2 i h (by omega); omega
      refine ⟨i + 1, ⟨by omega, by omega⟩, by omega, ?_⟩
      refine rRL ?_; apply zN
      exact wkD
  · have uU := Go.AM.uU; refine cRD ?_; apply zN
    refine ⟨?_, ?_⟩
    · rw [eRV, hr, if_neg (by omega)]
    · rw [eRH]
      exact rRL hdT
def LSt.ins (L : LSt) (p : Nat) (T : Tk) : LSt := { L with tl := insR L.tl p T }
theorem ins_len {L : LSt} {p : Nat} {T : Tk} (h : p ≤ L.tl.length) : (L.ins p T).tl.length = L.tl.length + 1 := insR_len h
theorem ins_tsk {L : LSt} {p j : Nat} {T : Tk} (h : p ≤ L.tl.length) : (L.ins p T).tsk j = if j < p then L.tsk j else if j = p then T else L.tsk (j - 1) := by
  unfold LSt.tsk LSt.ins
  simp only [List.getD_eq_getElem?_getD, insR_get? h]
  split
  · rfl
  · split <;> rfl
theorem ins_ok {L : LSt} {n p : Nat} {T : Tk} (h : Rt0 L n) (hp : PosGt L T.id p) (hT : TkOk L n T) (hl : L.tl.length < 1000) : Rt0 (L.ins p T) n ∧ Fwd L (L.ins p T) := by
  obtain ⟨p1, p2, p3⟩ := hp
  have hlen := ins_len (T := T) p1
  have key : ∀ x, TkOk L n x → TkOk (L.ins p T) n x := fun x q => ⟨q.id1, q.id2, q.g0, q.g1, q.c0, q.c1, q.e, q.v0, q.v1, q.r0, q.m0, q.m1, q.m2, q.m3⟩
  refine ⟨⟨h.n1, h.n64, h.cpus, h.cr0, h.cr, h.ng, h.ns1, h.ns, h.nk, h.nu, h.rows, by omega, h.par, h.par0, h.wt, h.clk, h.sp, h.root, fun j hj => ?_, fun a b hab hb => ?_, fun c hc => ?_⟩, ⟨rfl, rfl, rfl, fun _ => rfl, fun _ => Int.le_refl _, fun _ _ => Int.le_refl _, by omega, rfl⟩⟩
  · rw [ins_tsk p1]
    split
    · exact key _ (h.tk j (by omega))
    · split
      · exact key _ hT
      · exact key _ (h.tk (j - 1) (by omega))
  · rw [ins_tsk p1, ins_tsk p1]
    by_cases a1 : a < p
    · rw [if_pos a1]
      by_cases b1 : b < p
      · rw [if_pos b1]; exact h.sorted a b hab (by omega)
      · rw [if_neg b1]
        split
        · exact p2 a a1
        · exact h.sorted a (b - 1) (by omega) (by omega)
    · rw [if_neg a1, if_neg (show ¬ b < p by omega), if_neg (show ¬ b = p by omega)]
      split
      · exact p3 (b - 1) (by omega) (by omega)
      · exact h.sorted (a - 1) (b - 1) (by omega) (by omega)
  · rcases h.cur c hc with h0 | ⟨j, h1, h2, h3, h4⟩
    · exact .inl h0
    · refine .inr ?_
      by_cases e : j < p
      · exact ⟨j, by omega, by rw [ins_tsk p1, if_pos e]; exact ⟨h2, h3, h4⟩⟩
      · refine ⟨j + 1, by omega, ?_⟩
        rw [ins_tsk p1, if_neg (by omega), if_neg (by omega), show j + 1 - 1 = j by omega]
        exact ⟨h2, h3, h4⟩
theorem insR_map {α β : Type} (f : α → β) (l : List α) (p : Nat) (x : α) : (insR l p x).map f = insR (l.map f) p (f x) := by simp [insR, List.map_take, List.map_drop]
theorem MH_ins {m tk p : Nat} {L : LSt} {T : Tk} (hp : p ≤ L.tl.length) : MH m tk (L.ins p T) = (m, ⟨8, false, [[.lit (.int .i64 L.cpus), .lit (.int .u64 L.credit), .sl (m + 1) 0 L.gl.length, .sl (m + 2) 0 L.kl.length, .sl (m + 3) 0 L.ul.length, .sl tk 0 (L.tl.length + 1), .sl (m + 5) 0 L.sl.length, .lit (.bool true)]]⟩) :: (m + 1, ⟨2, true, glR L⟩) :: (m + 2, ⟨1, true, klR L⟩) :: (m + 3, ⟨1, true, ulR L⟩) :: (m + 5, ⟨1, false, ouR m L⟩) :: (tk, ⟨8, true, insR (tlR L) p (tkc T)⟩) :: fam (m + 6) 3 L.sl.length (slR L) := by
  rw [MH, LH, mrow, ins_len hp, tlR]
  have e : ((L.ins p T).tl.map tkc) = insR (tlR L) p (tkc T) := insR_map tkc L.tl p T
  rw [e]
  rfl
theorem posGt_ex {L : LSt} {id : Int} (hso : Sorted L) (hno : ∀ i, i < L.tl.length → (L.tsk i).id ≠ id) : ∃ p, PosGt L id p := by
  obtain ⟨p, h1, h2, h3⟩ := pos_ex L hso id
  exact ⟨p, h1, h2, fun q hq hq2 => by have := h3 q hq hq2; have := hno q hq2; omega⟩
end Go.Proofs.T
end
