import Derived.Test.YtnfijhlegoagjaaGreatGA
set_option linter.unusedVariables false
set_option linter.unusedSimpArgs false
set_option linter.unusedSectionVars false
set_option maxRecDepth 100000
set_option maxHeartbeats 8000000
set_option linter.unusedVariables false
set_option linter.unusedSimpArgs false
namespace Go.S
open Go.Sx Go.Proofs

def changeF (d : DB) (hd : Hld) (act : Tbl → Tbl × Chg × Int) : DB × Int :=
  if decide ((holdF d hd).2 ≠ 0) = true then holdF d hd
  else match (holdF d hd).1.tabs[bsI (tabCmps (holdF d hd).1.tabs hd.table)]?, (holdF d hd).1.works[bsI (wrkC (holdF d hd).1.works hd.s)]? with
    | some t, some w =>
      if decide ((act t).2.2 ≠ 19) && decide ((w.log.length : Int) ≥ 60) then ((holdF d hd).1, 4)
      else if decide ((act t).2.2 = 0) = true then
        (⟨(holdF d hd).1.tabs.set (bsI (tabCmps (holdF d hd).1.tabs hd.table)) (act t).1, (holdF d hd).1.works.set (bsI (wrkC (holdF d hd).1.works hd.s)) ⟨w.s, w.log ++ [⟨hd.table, (act t).2.1.op, (act t).2.1.row⟩], w.marks⟩, (holdF d hd).1.holds, (holdF d hd).1.waits⟩, 0)
      else ((holdF d hd).1, (act t).2.2)
    | _, _ => holdF d hd

theorem change58P {d : DB} {h : Heap} {v : Value} (q : RDB h v d) {n : Nat} (ok : Okd n d) (hn18 : n < 2 ^ 18) (s : Int) (hsr : -2 ^ 63 ≤ s ∧ s < 2 ^ 63) (name : ByteArray) {rb : Nat} {r : Row} {vb : Option Addr} {vn vc : Nat} (gr : h rb = some (.cells #[.slice vb vn vc] 63 (0, 0))) (qr : Sl 68 shVal h (.slice vb vn vc) r) :
    Ct 58 [v, .int .i64 s, .string name, .func (.func 55) #[] #[.pointer (some ⟨rb, 0, none⟩)]] h (fun v' h' => ∃ v1 e d', v' = .tuple #[v1, .int .i64 e] ∧ Le h h' ∧ RDB h' v1 d' ∧ (d', e) = changeF d ⟨s, name, true⟩ (doPut r)) := by
  obtain ⟨A, hA⟩ := Ar.ex
  obtain ⟨b1, n1, c1, b2, n2, c2, b3, n3, c3, b4, n4, c4, rfl⟩ := q.form
  have hH := ok.holds
  have hWt := ok.waits
  generalize hD : changeF d ⟨s, name, true⟩ (doPut r) = D
  have hHk := holdF_ok ok ⟨s, name, true⟩ hsr
  have hOn := holdF_on ok (hd := ⟨s, name, true⟩) hsr
  unfold changeF at hD
  obtain ⟨D0, hHD⟩ : ∃ D0, holdF d ⟨s, name, true⟩ = D0 := ⟨_, rfl⟩
  rw [hHD] at hD hHk hOn
  obtain ⟨⟨dT, dW, dH, dWt⟩, e⟩ := D0
  refine fn_of_sx A (tabOk T58.plan T58.pub) Tryz.func58 rfl (by kernel_rfl) ?_
  cbv
  refine begun43K q (fun h1 c tb wb ct cw W l1 hc htb hwb hct hcw hW ect ecw cs => ?_)
  have cs : Cst h1 c tb wb ct cw d.tabs (Wf d.works) d.holds d.waits 0 := by rw [hW] at cs; exact cs
  cbv
  refine hold53F cs ⟨s, name, true⟩ hct hcw ok.rows (by omega) (by omega) hHD (fun h2 k2 cs2' => ?_)
  have cs2 : Cst h2 c tb wb ct cw dT (Wf dW) dH dWt 0 := cs2'
  clear cs2'
  have hD : (if decide (e ≠ 0) = true then ((⟨dT, dW, dH, dWt⟩, e) : DB × Int)
    else match dT[bsI (tabCmps dT name)]?, dW[bsI (wrkC dW s)]? with
    | some t, some w =>
      if decide (((doPut r) t).2.2 ≠ 19) && decide ((w.log.length : Int) ≥ 60) then (⟨dT, dW, dH, dWt⟩, 4)
      else if decide (((doPut r) t).2.2 = 0) = true then
        (⟨dT.set (bsI (tabCmps dT name)) ((doPut r) t).1, dW.set (bsI (wrkC dW s)) ⟨w.s, w.log ++ [⟨name, ((doPut r) t).2.1.op, ((doPut r) t).2.1.row⟩], w.marks⟩, dH, dWt⟩, 0)
      else (⟨dT, dW, dH, dWt⟩, ((doPut r) t).2.2)
    | _, _ => (⟨dT, dW, dH, dWt⟩, e)) = D := hD
  have hOn : e = 0 → bsB (tabCmps dT name) = true ∧ bsB (wrkC dW s) = true := hOn
  have hRw : RowsB dT := hHk.ok.rows
  clear hHk
  have l2 : Le h h2 := l1.kpNew (by simp [hc, htb, hwb]) k2
  have hWf : (Wf dW).map (·.1) = dW := by unfold Wf; rw [List.map_map]; simp [Function.comp_def]
  generalize eu : A .icm .neq e 0 = u
  have fu := eu
  rw [icm_neq A] at eu
  rw [eu] at hD
  cbv
  rw [fu]
  cases u with
  | true =>
    have hDe : D = (⟨dT, dW, dH, dWt⟩, e) := by rw [← hD]; rfl
    refine cs2.elim (fun m1 m2 x3 m3 k3 x4 m4 k4 o g0 _ _ _ _ _ _ _ hrdb => ?_)
    rw [hWf] at hrdb
    cbv
    rw [offm A]
    refine ldb g0 rfl rfl ?_
    cbv
    refine own47K hrdb (fun h3 b1 n1 c1 b2 n2 c2 b3 n3 c3 b4 n4 c4 l3 hd6 => ?_)
    cbv
    exact ⟨_, e, _, rfl, l2.trans l3, hd6, hDe.symm⟩
  | false =>
    have he0 : e = 0 := Decidable.not_not.1 (of_decide_eq_false eu)
    subst he0
    obtain ⟨hbt, hbw⟩ := hOn rfl
    have hkt := bsB_lt hbt
    have hkw := bsB_lt hbw
    simp only [tabCmps, wrkC, List.length_map] at hkt hkw
    obtain ⟨t, ht⟩ := get_ex (xs := dT) (i := bsI (tabCmps dT name)) hkt
    obtain ⟨w, hw⟩ := get_ex (xs := dW) (i := bsI (wrkC dW s)) hkw
    cbv
    refine (table46 cs2 name).mono (fun v h3 hR => ?_)
    obtain ⟨l3, zt, tt, rfl, hbt2⟩ := hR
    obtain ⟨hzt, -⟩ := hbt2.at_
    have hzt : IsN zt (bsI (tabCmps dT name)) := hzt
    cbv
    refine (work50 (cs2.mono l3) s).mono (fun v h4 hR => ?_)
    obtain ⟨l4, zw, tw, rfl, hbw2⟩ := hR
    obtain ⟨hzw, -⟩ := hbw2.at_
    have hzw : IsN zw (bsI (wrkC dW s)) := by
      have h1 : IsN zw (bsI (wrkCmps (Wf dW) s)) := hzw
      rw [wrkC_wf] at h1; exact h1
    have hktl := (List.getElem?_eq_some_iff.1 ht).1
    have hkwl := (List.getElem?_eq_some_iff.1 hw).1
    generalize hkte : bsI (tabCmps dT name) = kt at *
    generalize hkwe : bsI (wrkC dW s) = kw at *
    have l34 := l3.trans l4
    have lh4 := l2.trans l34
    have cs4 := cs2.mono l34
    refine cs4.elim (fun m1 m2 x3 m3 k3 x4 m4 k4 o f0 f1 f2 f3 f4 f5 f6 f7 _ => ?_)
    have hm2 : m2 = dW.length := by rw [f4]; simp [Wf]
    have hwW : (Wf dW)[kw]? = some (w, true) := by unfold Wf; rw [List.getElem?_map, hw]; rfl
    have hckw : (some (⟨wb, 0, none⟩ : Addr)).isSome = true ∧ 0 ≤ zw ∧ zw < (m2 : Int) := ⟨rfl, hzw.ix (by omega)⟩
    have hckt : (some (⟨tb, 0, none⟩ : Addr)).isSome = true ∧ 0 ≤ zt ∧ zt < (m1 : Int) := ⟨rfl, hzt.ix (by omega)⟩
    cbv
    rw [offm A]
    rw [offm A]
    refine ldb f0 rfl rfl ?_
    cbv
    refine ⟨hckw, ?_⟩
    cbv
    rw [offm A]
    rw [offm A]
    refine ldb f0 rfl rfl ?_
    cbv
    refine ⟨hckt, ?_⟩
    cbv
    obtain ⟨⟨nm, cols, key, only⟩, rows⟩ := t
    refine ld_tbl (f3.sl f2) ht hzt.eq (fun y1 y2 y3 y4 y5 y6 r1 r2 => ?_)
    have hrl : y5 ≤ 2 ^ 37 := by have h1 := hRw _ (List.mem_of_getElem? ht); have h2 := r2.len; have h1 : rows.length ≤ 2 ^ 36 := h1; have h2 : y5 = rows.length := h2; omega
    cbv
    refine put55e (nm := nm) (key := key) (only := only) r1 r2 (lh4 _ _ gr) (qr.mono (lh4.t _)) hrl (fun h5 z1 z2 z3 z4 z5 z6 z7 z8 z9 e1 T1 C1 l5 r3 r4 r5 r6 => ?_)
    have lh5 := lh4.trans l5
    have cs5 := cs4.mono l5
    have hDe : D = (if decide (e1 ≠ 19) && decide ((w.log.length : Int) ≥ 60) then (⟨dT, dW, dH, dWt⟩, 4)
        else if decide (e1 = 0) = true then (⟨dT.set kt ⟨⟨nm, cols, key, only⟩, T1⟩, dW.set kw ⟨w.s, w.log ++ [⟨name, C1.op, C1.row⟩], w.marks⟩, dH, dWt⟩, 0) else (⟨dT, dW, dH, dWt⟩, e1)) := by
      rw [← hD]
      simp only [Bool.false_eq_true, if_false]
      rw [ht, hw]
      simp only
      rw [← r6]
    have fin : ∀ (e : Int) (hh : Heap) (v : Value), Le h hh → RDB hh v ⟨dT, dW, dH, dWt⟩ → D = (⟨dT, dW, dH, dWt⟩, e) → ∃ v1 e1 d', Value.tuple #[v, .int .i64 e] = .tuple #[v1, .int .i64 e1] ∧ Le h hh ∧ RDB hh v1 d' ∧ (d', e1) = D :=
      fun e hh v l r hE => ⟨v, e, _, rfl, l, r, hE.symm⟩
    refine cs5.elim (fun p1 p2 p3 p4 p5 p6 p7 p8 p9 g0 i1 i2 i3 i4 i5 i6 i7 hrdb => ?_)
    rw [hWf] at hrdb
    generalize e19 : A .icm .neq e1 19 = u19
    have f19 := e19
    rw [icm_neq A] at e19
    generalize e00 : A .icm .eql e1 0 = u0
    have f00 := e00
    rw [icm_eql A] at e00
    rw [e19, e00] at hDe
    cbv
    rw [f19]
    cases u19 with
    | false =>
      have h19 : e1 = 19 := Decidable.not_not.1 (of_decide_eq_false e19)
      have hu0 : u0 = false := by rw [← e00, h19]; rfl
      subst hu0
      have hDe : D = (⟨dT, dW, dH, dWt⟩, e1) := hDe
      cbv
      rw [f00]
      cbv
      rw [offm A]
      refine ldb g0 rfl rfl ?_
      cbv
      refine own47K hrdb (fun h6 b1 n1 c1 b2 n2 c2 b3 n3 c3 b4 n4 c4 l6 hd6 => ?_)
      cbv
      exact fin e1 _ _ (lh5.trans l6) hd6 hDe
    | true =>
      have hk3 := hzw.eq
      cbv
      refine ld_log (i5.sl i4) hwW hzw.eq (fun y1 y2 y3 r7 r9 _ => ?_)
      generalize e60 : A .icm .geq (A .nat y2) 60 = u60
      have f60 := e60
      rw [icm_geq A, hA.nat] at e60
      simp only [Int.ofNat_eq_natCast] at e60
      have hy2 : y2 = w.log.length := r7.len
      have hlt60 : u60 = false → y2 < 60 := fun e => by rw [e] at e60; have := of_decide_eq_false e60; omega
      rw [hy2] at e60
      rw [e60] at hDe
      cbv
      rw [f60]
      cases u60 with
      | true =>
        have hDe : D = (⟨dT, dW, dH, dWt⟩, 4) := hDe
        have h40 : A .icm .eql 4 0 = false := by rw [icm_eql A]; rfl
        cbv
        rw [h40]
        cbv
        rw [offm A]
        refine ldb g0 rfl rfl ?_
        cbv
        refine own47K hrdb (fun h6 b1 n1 c1 b2 n2 c2 b3 n3 c3 b4 n4 c4 l6 hd6 => ?_)
        cbv
        exact fin 4 _ _ (lh5.trans l6) hd6 hDe
      | false =>
        have hlt := hlt60 rfl
        have hlog : w.log.length < 60 := by omega
        cbv
        rw [f00]
        cases u0 with
        | false =>
          have hDe : D = (⟨dT, dW, dH, dWt⟩, e1) := hDe
          cbv
          rw [offm A]
          refine ldb g0 rfl rfl ?_
          cbv
          refine own47K hrdb (fun h6 b1 n1 c1 b2 n2 c2 b3 n3 c3 b4 n4 c4 l6 hd6 => ?_)
          cbv
          exact fin e1 _ _ (lh5.trans l6) hd6 hDe
        | true =>
          have h10 : e1 = 0 := of_decide_eq_true e00
          have hDe : D = (⟨dT.set kt ⟨⟨nm, cols, key, only⟩, T1⟩, dW.set kw ⟨w.s, w.log ++ [⟨name, C1.op, C1.row⟩], w.marks⟩, dH, dWt⟩, 0) := hDe
          subst h10
          have hckt5 : (some (⟨tb, 0, none⟩ : Addr)).isSome = true ∧ 0 ≤ zt ∧ zt < (p1 : Int) := ⟨rfl, hzt.ix (by omega)⟩
          cbv
          rw [offm A]
          rw [offm A]
          refine ldb g0 rfl rfl ?_
          cbv
          refine ⟨hckt5, ?_⟩
          cbv
          have rT : shTbl.R h5 [.string nm, .slice z1 z2 z3, .int .i64 key, .bool only, .slice z4 z5 z6] ⟨⟨nm, cols, key, only⟩, T1⟩ := ⟨_, _, _, _, _, _, rfl, r3, r4⟩
          refine i3.setAt (by decide) (i := kt) (by omega) hzt.eq rfl rT (fun h6 k6 t6 o6 => ?_)
          have hctb : c ≠ tb := hct
          have g6 := k6 _ _ g0 (by simpa using hctb)
          have i56 := i5.mono (t6 _ (by decide))
          have r56 := r5.mono (t6 _ (by decide))
          cbv
          refine ld_log (i56.sl i4) hwW hzw.eq (fun y1 y2 y3 r7 r9 ag => ?_)
          have hy3 := r9 rfl
          subst hy3
          cbv
          intro nb7 h7 hnb7 e7
          have l7 : Le h6 h7 := by rw [e7]; exact Le.set hnb7
          have g7 := (congrFun e7 nb7).trans hset_self
          have qx := one_sl (s := shChg) g7 (x := ⟨name, C1.op, C1.row⟩) ⟨_, _, _, rfl, r56.mono (l7.t _)⟩
          cbv
          refine ag _ _ l7 ?_
          cbv
          refine ⟨⟨_, rfl, rfl⟩, ?_⟩
          cbv
          have hy2 := r7.len
          refine appendX_own (r7.mono (l7.t _)) qx (by omega) rfl (by decide) (by simp only at hy2; omega) (fun nb8 c8 h8 hnb8 l8 hc8 o8 => ?_)
          have l68 := l7.trans l8
          have i58 := i56.mono (l68.t _)
          have s8 := o8.sl (n := y3 + 1) (by simp only [List.length_append, List.length_singleton]; simp only at hy2; omega)
          cbv
          refine i58.setF (by decide) (i := kw) hwW hzw.eq rfl (off := 1) (by simp [shWrkG]) (x' := (⟨w.s, w.log ++ [⟨name, C1.op, C1.row⟩], w.marks⟩, false)) (fun cs hcs => ?_) (fun h9 k9 t9 o9 => ?_)
          · obtain ⟨y1, y2, y3, y4, y5, y6, rfl, q1, q2, q3⟩ := hcs
            exact ⟨_, _, _, y4, y5, y6, rfl, s8, q2, fun e => by cases e⟩
          have g8 := l68 _ _ g6
          have hcwb : c ≠ wb := hcw
          have g9 := k9 _ _ g8 (by simpa using hcwb)
          have lh9 : Le h h9 := by
            have h1 : Le h h6 := lh5.kpNew (by simpa using htb) k6
            exact (h1.trans l68).kpNew (by simpa using hwb) k9
          have hdb : RDB h9 (.agg #[.slice (some ⟨tb, 0, none⟩) p1 ct, .slice (some ⟨wb, 0, none⟩) p2 cw, .slice p3 p4 p5, .slice p6 p7 p8]) ⟨dT.set kt ⟨⟨nm, cols, key, only⟩, T1⟩, dW.set kw ⟨w.s, w.log ++ [⟨name, C1.op, C1.row⟩], w.marks⟩, dH, dWt⟩ := by
            refine ⟨_, _, _, _, _, _, _, _, _, _, _, _, _, rfl, ((o6.mono (l68.t _)).mono (t9 _ (by decide))).sl (by rw [List.length_set]; exact i2), o9.sl (by rw [List.length_set]; exact i4), ((i6.mono (t6 _ (by decide))).mono (l68.t _)).mono (t9 _ (by decide)), ((i7.mono (t6 _ (by decide))).mono (l68.t _)).mono (t9 _ (by decide)), ?_⟩
            rw [List.map_set, hWf]
          cbv
          rw [offm A]
          refine ldb g9 rfl rfl ?_
          cbv
          refine own47K hdb (fun h10 b1 n1 c1 b2 n2 c2 b3 n3 c3 b4 n4 c4 l10 hd6 => ?_)
          cbv
          exact ⟨_, 0, _, rfl, lh9.trans l10, hd6, hDe.symm⟩

theorem change58T {d : DB} {h : Heap} {v : Value} (q : RDB h v d) {n : Nat} (ok : Okd n d) (hn18 : n < 2 ^ 18) (s : Int) (hsr : -2 ^ 63 ≤ s ∧ s < 2 ^ 63) (name : ByteArray) {rb : Nat} {kv : Val} (gr : h rb = some (.cells #[.int .i64 kv.k, .int .i64 kv.n, .string kv.s] 68 (0, 0))) :
    Ct 58 [v, .int .i64 s, .string name, .func (.func 59) #[] #[.pointer (some ⟨rb, 0, none⟩)]] h (fun v' h' => ∃ v1 e d', v' = .tuple #[v1, .int .i64 e] ∧ Le h h' ∧ RDB h' v1 d' ∧ (d', e) = changeF d ⟨s, name, true⟩ (doTake kv)) := by
  obtain ⟨A, hA⟩ := Ar.ex
  obtain ⟨b1, n1, c1, b2, n2, c2, b3, n3, c3, b4, n4, c4, rfl⟩ := q.form
  have hH := ok.holds
  have hWt := ok.waits
  generalize hD : changeF d ⟨s, name, true⟩ (doTake kv) = D
  have hHk := holdF_ok ok ⟨s, name, true⟩ hsr
  have hOn := holdF_on ok (hd := ⟨s, name, true⟩) hsr
  unfold changeF at hD
  obtain ⟨D0, hHD⟩ : ∃ D0, holdF d ⟨s, name, true⟩ = D0 := ⟨_, rfl⟩
  rw [hHD] at hD hHk hOn
  obtain ⟨⟨dT, dW, dH, dWt⟩, e⟩ := D0
  refine fn_of_sx A (tabOk T58.plan T58.pub) Tryz.func58 rfl (by kernel_rfl) ?_
  cbv
  refine begun43K q (fun h1 c tb wb ct cw W l1 hc htb hwb hct hcw hW ect ecw cs => ?_)
  have cs : Cst h1 c tb wb ct cw d.tabs (Wf d.works) d.holds d.waits 0 := by rw [hW] at cs; exact cs
  cbv
  refine hold53F cs ⟨s, name, true⟩ hct hcw ok.rows (by omega) (by omega) hHD (fun h2 k2 cs2' => ?_)
  have cs2 : Cst h2 c tb wb ct cw dT (Wf dW) dH dWt 0 := cs2'
  clear cs2'
  have hD : (if decide (e ≠ 0) = true then ((⟨dT, dW, dH, dWt⟩, e) : DB × Int)
    else match dT[bsI (tabCmps dT name)]?, dW[bsI (wrkC dW s)]? with
    | some t, some w =>
      if decide (((doTake kv) t).2.2 ≠ 19) && decide ((w.log.length : Int) ≥ 60) then (⟨dT, dW, dH, dWt⟩, 4)
      else if decide (((doTake kv) t).2.2 = 0) = true then
        (⟨dT.set (bsI (tabCmps dT name)) ((doTake kv) t).1, dW.set (bsI (wrkC dW s)) ⟨w.s, w.log ++ [⟨name, ((doTake kv) t).2.1.op, ((doTake kv) t).2.1.row⟩], w.marks⟩, dH, dWt⟩, 0)
      else (⟨dT, dW, dH, dWt⟩, ((doTake kv) t).2.2)
    | _, _ => (⟨dT, dW, dH, dWt⟩, e)) = D := hD
  have hOn : e = 0 → bsB (tabCmps dT name) = true ∧ bsB (wrkC dW s) = true := hOn
  have hRw : RowsB dT := hHk.ok.rows
  clear hHk
  have l2 : Le h h2 := l1.kpNew (by simp [hc, htb, hwb]) k2
  have hWf : (Wf dW).map (·.1) = dW := by unfold Wf; rw [List.map_map]; simp [Function.comp_def]
  generalize eu : A .icm .neq e 0 = u
  have fu := eu
  rw [icm_neq A] at eu
  rw [eu] at hD
  cbv
  rw [fu]
  cases u with
  | true =>
    have hDe : D = (⟨dT, dW, dH, dWt⟩, e) := by rw [← hD]; rfl
    refine cs2.elim (fun m1 m2 x3 m3 k3 x4 m4 k4 o g0 _ _ _ _ _ _ _ hrdb => ?_)
    rw [hWf] at hrdb
    cbv
    rw [offm A]
    refine ldb g0 rfl rfl ?_
    cbv
    refine own47K hrdb (fun h3 b1 n1 c1 b2 n2 c2 b3 n3 c3 b4 n4 c4 l3 hd6 => ?_)
    cbv
    exact ⟨_, e, _, rfl, l2.trans l3, hd6, hDe.symm⟩
  | false =>
    have he0 : e = 0 := Decidable.not_not.1 (of_decide_eq_false eu)
    subst he0
    obtain ⟨hbt, hbw⟩ := hOn rfl
    have hkt := bsB_lt hbt
    have hkw := bsB_lt hbw
    simp only [tabCmps, wrkC, List.length_map] at hkt hkw
    obtain ⟨t, ht⟩ := get_ex (xs := dT) (i := bsI (tabCmps dT name)) hkt
    obtain ⟨w, hw⟩ := get_ex (xs := dW) (i := bsI (wrkC dW s)) hkw
    cbv
    refine (table46 cs2 name).mono (fun v h3 hR => ?_)
    obtain ⟨l3, zt, tt, rfl, hbt2⟩ := hR
    obtain ⟨hzt, -⟩ := hbt2.at_
    have hzt : IsN zt (bsI (tabCmps dT name)) := hzt
    cbv
    refine (work50 (cs2.mono l3) s).mono (fun v h4 hR => ?_)
    obtain ⟨l4, zw, tw, rfl, hbw2⟩ := hR
    obtain ⟨hzw, -⟩ := hbw2.at_
    have hzw : IsN zw (bsI (wrkC dW s)) := by
      have h1 : IsN zw (bsI (wrkCmps (Wf dW) s)) := hzw
      rw [wrkC_wf] at h1; exact h1
    have hktl := (List.getElem?_eq_some_iff.1 ht).1
    have hkwl := (List.getElem?_eq_some_iff.1 hw).1
    generalize hkte : bsI (tabCmps dT name) = kt at *
    generalize hkwe : bsI (wrkC dW s) = kw at *
    have l34 := l3.trans l4
    have lh4 := l2.trans l34
    have cs4 := cs2.mono l34
    refine cs4.elim (fun m1 m2 x3 m3 k3 x4 m4 k4 o f0 f1 f2 f3 f4 f5 f6 f7 _ => ?_)
    have hm2 : m2 = dW.length := by rw [f4]; simp [Wf]
    have hwW : (Wf dW)[kw]? = some (w, true) := by unfold Wf; rw [List.getElem?_map, hw]; rfl
    have hckw : (some (⟨wb, 0, none⟩ : Addr)).isSome = true ∧ 0 ≤ zw ∧ zw < (m2 : Int) := ⟨rfl, hzw.ix (by omega)⟩
    have hckt : (some (⟨tb, 0, none⟩ : Addr)).isSome = true ∧ 0 ≤ zt ∧ zt < (m1 : Int) := ⟨rfl, hzt.ix (by omega)⟩
    cbv
    rw [offm A]
    rw [offm A]
    refine ldb f0 rfl rfl ?_
    cbv
    refine ⟨hckw, ?_⟩
    cbv
    rw [offm A]
    rw [offm A]
    refine ldb f0 rfl rfl ?_
    cbv
    refine ⟨hckt, ?_⟩
    cbv
    obtain ⟨⟨nm, cols, key, only⟩, rows⟩ := t
    refine ld_tbl (f3.sl f2) ht hzt.eq (fun y1 y2 y3 y4 y5 y6 r1 r2 => ?_)
    have hrl : y5 ≤ 2 ^ 37 := by have h1 := hRw _ (List.mem_of_getElem? ht); have h2 := r2.len; have h1 : rows.length ≤ 2 ^ 36 := h1; have h2 : y5 = rows.length := h2; omega
    cbv
    refine take59e (nm := nm) (key := key) (only := only) r1 r2 (kv := kv) (lh4 _ _ gr) hrl (fun h5 z1 z2 z3 z4 z5 z6 z7 z8 z9 e1 T1 C1 l5 r3 r4 r5 r6 => ?_)
    have lh5 := lh4.trans l5
    have cs5 := cs4.mono l5
    have hDe : D = (if decide (e1 ≠ 19) && decide ((w.log.length : Int) ≥ 60) then (⟨dT, dW, dH, dWt⟩, 4)
        else if decide (e1 = 0) = true then (⟨dT.set kt ⟨⟨nm, cols, key, only⟩, T1⟩, dW.set kw ⟨w.s, w.log ++ [⟨name, C1.op, C1.row⟩], w.marks⟩, dH, dWt⟩, 0) else (⟨dT, dW, dH, dWt⟩, e1)) := by
      rw [← hD]
      simp only [Bool.false_eq_true, if_false]
      rw [ht, hw]
      simp only
      rw [← r6]
    have fin : ∀ (e : Int) (hh : Heap) (v : Value), Le h hh → RDB hh v ⟨dT, dW, dH, dWt⟩ → D = (⟨dT, dW, dH, dWt⟩, e) → ∃ v1 e1 d', Value.tuple #[v, .int .i64 e] = .tuple #[v1, .int .i64 e1] ∧ Le h hh ∧ RDB hh v1 d' ∧ (d', e1) = D :=
      fun e hh v l r hE => ⟨v, e, _, rfl, l, r, hE.symm⟩
    refine cs5.elim (fun p1 p2 p3 p4 p5 p6 p7 p8 p9 g0 i1 i2 i3 i4 i5 i6 i7 hrdb => ?_)
    rw [hWf] at hrdb
    generalize e19 : A .icm .neq e1 19 = u19
    have f19 := e19
    rw [icm_neq A] at e19
    generalize e00 : A .icm .eql e1 0 = u0
    have f00 := e00
    rw [icm_eql A] at e00
    rw [e19, e00] at hDe
    cbv
    rw [f19]
    cases u19 with
    | false =>
      have h19 : e1 = 19 := Decidable.not_not.1 (of_decide_eq_false e19)
      have hu0 : u0 = false := by rw [← e00, h19]; rfl
      subst hu0
      have hDe : D = (⟨dT, dW, dH, dWt⟩, e1) := hDe
      cbv
      rw [f00]
      cbv
      rw [offm A]
      refine ldb g0 rfl rfl ?_
      cbv
      refine own47K hrdb (fun h6 b1 n1 c1 b2 n2 c2 b3 n3 c3 b4 n4 c4 l6 hd6 => ?_)
      cbv
      exact fin e1 _ _ (lh5.trans l6) hd6 hDe
    | true =>
      have hk3 := hzw.eq
      cbv
      refine ld_log (i5.sl i4) hwW hzw.eq (fun y1 y2 y3 r7 r9 _ => ?_)
      generalize e60 : A .icm .geq (A .nat y2) 60 = u60
      have f60 := e60
      rw [icm_geq A, hA.nat] at e60
      simp only [Int.ofNat_eq_natCast] at e60
      have hy2 : y2 = w.log.length := r7.len
      have hlt60 : u60 = false → y2 < 60 := fun e => by rw [e] at e60; have := of_decide_eq_false e60; omega
      rw [hy2] at e60
      rw [e60] at hDe
      cbv
      rw [f60]
      cases u60 with
      | true =>
        have hDe : D = (⟨dT, dW, dH, dWt⟩, 4) := hDe
        have h40 : A .icm .eql 4 0 = false := by rw [icm_eql A]; rfl
        cbv
        rw [h40]
        cbv
        rw [offm A]
        refine ldb g0 rfl rfl ?_
        cbv
        refine own47K hrdb (fun h6 b1 n1 c1 b2 n2 c2 b3 n3 c3 b4 n4 c4 l6 hd6 => ?_)
        cbv
        exact fin 4 _ _ (lh5.trans l6) hd6 hDe
      | false =>
        have hlt := hlt60 rfl
        have hlog : w.log.length < 60 := by omega
        cbv
        rw [f00]
        cases u0 with
        | false =>
          have hDe : D = (⟨dT, dW, dH, dWt⟩, e1) := hDe
          cbv
          rw [offm A]
          refine ldb g0 rfl rfl ?_
          cbv
          refine own47K hrdb (fun h6 b1 n1 c1 b2 n2 c2 b3 n3 c3 b4 n4 c4 l6 hd6 => ?_)
          cbv
          exact fin e1 _ _ (lh5.trans l6) hd6 hDe
        | true =>
          have h10 : e1 = 0 := of_decide_eq_true e00
          have hDe : D = (⟨dT.set kt ⟨⟨nm, cols, key, only⟩, T1⟩, dW.set kw ⟨w.s, w.log ++ [⟨name, C1.op, C1.row⟩], w.marks⟩, dH, dWt⟩, 0) := hDe
          subst h10
          have hckt5 : (some (⟨tb, 0, none⟩ : Addr)).isSome = true ∧ 0 ≤ zt ∧ zt < (p1 : Int) := ⟨rfl, hzt.ix (by omega)⟩
          cbv
          rw [offm A]
          rw [offm A]
          refine ldb g0 rfl rfl ?_
          cbv
          refine ⟨hckt5, ?_⟩
          cbv
          have rT : shTbl.R h5 [.string nm, .slice z1 z2 z3, .int .i64 key, .bool only, .slice z4 z5 z6] ⟨⟨nm, cols, key, only⟩, T1⟩ := ⟨_, _, _, _, _, _, rfl, r3, r4⟩
          refine i3.setAt (by decide) (i := kt) (by omega) hzt.eq rfl rT (fun h6 k6 t6 o6 => ?_)
          have hctb : c ≠ tb := hct
          have g6 := k6 _ _ g0 (by simpa using hctb)
          have i56 := i5.mono (t6 _ (by decide))
          have r56 := r5.mono (t6 _ (by decide))
          cbv
          refine ld_log (i56.sl i4) hwW hzw.eq (fun y1 y2 y3 r7 r9 ag => ?_)
          have hy3 := r9 rfl
          subst hy3
          cbv
          intro nb7 h7 hnb7 e7
          have l7 : Le h6 h7 := by rw [e7]; exact Le.set hnb7
          have g7 := (congrFun e7 nb7).trans hset_self
          have qx := one_sl (s := shChg) g7 (x := ⟨name, C1.op, C1.row⟩) ⟨_, _, _, rfl, r56.mono (l7.t _)⟩
          cbv
          refine ag _ _ l7 ?_
          cbv
          refine ⟨⟨_, rfl, rfl⟩, ?_⟩
          cbv
          have hy2 := r7.len
          refine appendX_own (r7.mono (l7.t _)) qx (by omega) rfl (by decide) (by simp only at hy2; omega) (fun nb8 c8 h8 hnb8 l8 hc8 o8 => ?_)
          have l68 := l7.trans l8
          have i58 := i56.mono (l68.t _)
          have s8 := o8.sl (n := y3 + 1) (by simp only [List.length_append, List.length_singleton]; simp only at hy2; omega)
          cbv
          refine i58.setF (by decide) (i := kw) hwW hzw.eq rfl (off := 1) (by simp [shWrkG]) (x' := (⟨w.s, w.log ++ [⟨name, C1.op, C1.row⟩], w.marks⟩, false)) (fun cs hcs => ?_) (fun h9 k9 t9 o9 => ?_)
          · obtain ⟨y1, y2, y3, y4, y5, y6, rfl, q1, q2, q3⟩ := hcs
            exact ⟨_, _, _, y4, y5, y6, rfl, s8, q2, fun e => by cases e⟩
          have g8 := l68 _ _ g6
          have hcwb : c ≠ wb := hcw
          have g9 := k9 _ _ g8 (by simpa using hcwb)
          have lh9 : Le h h9 := by
            have h1 : Le h h6 := lh5.kpNew (by simpa using htb) k6
            exact (h1.trans l68).kpNew (by simpa using hwb) k9
          have hdb : RDB h9 (.agg #[.slice (some ⟨tb, 0, none⟩) p1 ct, .slice (some ⟨wb, 0, none⟩) p2 cw, .slice p3 p4 p5, .slice p6 p7 p8]) ⟨dT.set kt ⟨⟨nm, cols, key, only⟩, T1⟩, dW.set kw ⟨w.s, w.log ++ [⟨name, C1.op, C1.row⟩], w.marks⟩, dH, dWt⟩ := by
            refine ⟨_, _, _, _, _, _, _, _, _, _, _, _, _, rfl, ((o6.mono (l68.t _)).mono (t9 _ (by decide))).sl (by rw [List.length_set]; exact i2), o9.sl (by rw [List.length_set]; exact i4), ((i6.mono (t6 _ (by decide))).mono (l68.t _)).mono (t9 _ (by decide)), ((i7.mono (t6 _ (by decide))).mono (l68.t _)).mono (t9 _ (by decide)), ?_⟩
            rw [List.map_set, hWf]
          cbv
          rw [offm A]
          refine ldb g9 rfl rfl ?_
          cbv
          refine own47K hdb (fun h10 b1 n1 c1 b2 n2 c2 b3 n3 c3 b4 n4 c4 l10 hd6 => ?_)
          cbv
          exact ⟨_, 0, _, rfl, lh9.trans l10, hd6, hDe.symm⟩
end Go.S

set_option maxRecDepth 100000
set_option maxHeartbeats 8000000
set_option linter.unusedVariables false
set_option linter.unusedSimpArgs false
namespace Go.S
open Go.Sx Go.Proofs

def putF (d : DB) (s : Int) (name : ByteArray) (r : Row) : DB × Int := changeF d ⟨s, name, true⟩ (doPut r)
def takeF (d : DB) (s : Int) (name : ByteArray) (k : Val) : DB × Int := changeF d ⟨s, name, true⟩ (doTake k)
def rollbackD (d : DB) (s : Int) : DB × Int := if bsB (wrkC d.works s) = true then (backD d s, 0) else (d, 2)
def commitD (d : DB) (s : Int) : DB × List Chg × Int :=
  if bsB (wrkC d.works s) = true then (⟨d.tabs, endK d.works s, wout d.holds s, wout d.waits s⟩, match d.works[bsI (wrkC d.works s)]? with
    | some w => w.log
    | none => [], 0)
  else (d, [], 2)
def dropD (d : DB) (name : ByteArray) : DB × Int :=
  if bsB (tabCmps d.tabs name) = true then if decide ((d.works.length : Int) > 0) = true then (d, 18) else (⟨d.tabs.eraseIdx (bsI (tabCmps d.tabs name)), d.works, d.holds, d.waits⟩, 0)
  else (d, 2)
def rowsD (d : DB) (s : Int) (name : ByteArray) : DB × List Row × Int :=
  if decide ((holdF d ⟨s, name, false⟩).2 ≠ 0) = true then ((holdF d ⟨s, name, false⟩).1, [], (holdF d ⟨s, name, false⟩).2)
  else ((holdF d ⟨s, name, false⟩).1, match (holdF d ⟨s, name, false⟩).1.tabs[bsI (tabCmps (holdF d ⟨s, name, false⟩).1.tabs name)]? with
    | some t => t.rows
    | none => [], 0)
theorem Wf_fst (ws : List Wrk) : (Wf ws).map (·.1) = ws := by unfold Wf; rw [List.map_map]; simp [Function.comp_def]

theorem put23F {d : DB} {h : Heap} {v : Value} (q : RDB h v d) {n : Nat} (ok : Okd n d) (hn18 : n < 2 ^ 18) (s : Int) (hsr : -2 ^ 63 ≤ s ∧ s < 2 ^ 63) (name : ByteArray) {r : Row} {vb : Option Addr} {vn vc : Nat} (qr : Sl 68 shVal h (.slice vb vn vc) r) {D : DB × Int} (hD : putF d s name r = D) {k : Value → Heap → Prop}
    (hk : DbK h D.1 D.2 k) : Ct 23 [v, .int .i64 s, .string name, .slice vb vn vc] h k := by
  obtain ⟨A, hA⟩ := Ar.ex
  obtain ⟨b1, n1, c1, b2, n2, c2, b3, n3, c3, b4, n4, c4, rfl⟩ := q.form
  refine fn_of_sx A (tabOk T23.plan T23.pub) Tryz.func23 rfl (by kernel_rfl) ?_
  cbv
  intro rb h1 hrb e1
  have l1 : Le h h1 := by rw [e1]; exact Le.set hrb
  have g1 := (congrFun e1 rb).trans hset_self
  cbv
  refine (change58P (q.mono l1) ok hn18 s hsr name g1 (qr.mono (l1.t _))).mono (fun v h2 hR => ?_)
  obtain ⟨v1, e, d', hv, l2, hd, hE⟩ := hR
  have hE2 : (d', e) = D := hE.trans hD
  subst hE2
  obtain ⟨b1, n1, c1, b2, n2, c2, b3, n3, c3, b4, n4, c4, hf⟩ := hd.form
  rw [hv, hf]
  have hfin := hk h2 b1 n1 c1 b2 n2 c2 b3 n3 c3 b4 n4 c4 (l1.trans l2) (by rw [← hf]; exact hd)
  cbv
  exact hfin

theorem take24F {d : DB} {h : Heap} {v : Value} (q : RDB h v d) {n : Nat} (ok : Okd n d) (hn18 : n < 2 ^ 18) (s : Int) (hsr : -2 ^ 63 ≤ s ∧ s < 2 ^ 63) (name : ByteArray) (kv : Val) {D : DB × Int} (hD : takeF d s name kv = D) {k : Value → Heap → Prop}
    (hk : DbK h D.1 D.2 k) : Ct 24 [v, .int .i64 s, .string name, .agg #[.int .i64 kv.k, .int .i64 kv.n, .string kv.s]] h k := by
  obtain ⟨A, hA⟩ := Ar.ex
  obtain ⟨b1, n1, c1, b2, n2, c2, b3, n3, c3, b4, n4, c4, rfl⟩ := q.form
  refine fn_of_sx A (tabOk T24.plan T24.pub) Tryz.func24 rfl (by kernel_rfl) ?_
  cbv
  intro rb h1 hrb e1
  have l1 : Le h h1 := by rw [e1]; exact Le.set hrb
  have g1 := (congrFun e1 rb).trans hset_self
  cbv
  refine (change58T (q.mono l1) ok hn18 s hsr name (kv := kv) g1).mono (fun v h2 hR => ?_)
  obtain ⟨v1, e, d', hv, l2, hd, hE⟩ := hR
  have hE2 : (d', e) = D := hE.trans hD
  subst hE2
  obtain ⟨b1, n1, c1, b2, n2, c2, b3, n3, c3, b4, n4, c4, hf⟩ := hd.form
  rw [hv, hf]
  have hfin := hk h2 b1 n1 c1 b2 n2 c2 b3 n3 c3 b4 n4 c4 (l1.trans l2) (by rw [← hf]; exact hd)
  cbv
  exact hfin

theorem Cst.new {d : DB} {h1 : Heap} {c tb wb ct cw : Nat} {W : List (Wrk × Bool)} (cs : Cst h1 c tb wb ct cw d.tabs W d.holds d.waits 0) (hW : W = d.works.map fun w => (w, true)) : Cst h1 c tb wb ct cw d.tabs (Wf d.works) d.holds d.waits 0 := by rw [hW] at cs; exact cs

theorem hold20K {d : DB} {h : Heap} {v : Value} (q : RDB h v d) {n : Nat} (ok : Okd n d) (hn18 : n < 2 ^ 18) (s : Int) (name : ByteArray) (x : Bool) {D : DB × Int} (hD : holdF d ⟨s, name, x⟩ = D) {k : Value → Heap → Prop}
    (hk : DbK h D.1 D.2 k) : Ct 20 [v, .int .i64 s, .string name, .bool x] h k := by
  obtain ⟨A, hA⟩ := Ar.ex
  obtain ⟨b1, n1, c1, b2, n2, c2, b3, n3, c3, b4, n4, c4, rfl⟩ := q.form
  have hH := ok.holds
  have hWt := ok.waits
  obtain ⟨⟨dT, dW, dH, dWt⟩, e⟩ := D
  refine fn_of_sx A (tabOk T20.plan T20.pub) Tryz.func20 rfl (by kernel_rfl) ?_
  cbv
  refine begun43K q (fun h1 c tb wb ct cw W l1 hc htb hwb hct hcw hW ect ecw cs => ?_)
  cbv
  refine hold53F (cs.new hW) ⟨s, name, x⟩ hct hcw ok.rows (by omega) (by omega) hD (fun h2 k2 cs2' => ?_)
  have cs2 : Cst h2 c tb wb ct cw dT (Wf dW) dH dWt 0 := cs2'
  clear cs2'
  have l2 : Le h h2 := l1.kpNew (by simp [hc, htb, hwb]) k2
  refine cs2.elim (fun m1 m2 x3 m3 k3 x4 m4 k4 o g0 _ _ _ _ _ _ _ hrdb => ?_)
  rw [Wf_fst] at hrdb
  cbv
  rw [offm A]
  refine ldb g0 rfl rfl ?_
  cbv
  refine own47K hrdb (fun h3 b1 n1 c1 b2 n2 c2 b3 n3 c3 b4 n4 c4 l3 hd6 => ?_)
  have hfin := hk h3 b1 n1 c1 b2 n2 c2 b3 n3 c3 b4 n4 c4 (l2.trans l3) hd6
  cbv
  exact hfin

theorem rollback34K {d : DB} {h : Heap} {v : Value} (q : RDB h v d) {n : Nat} (ok : Okd n d) (hn18 : n < 2 ^ 18) (s : Int) {D : DB × Int} (hD : rollbackD d s = D) {k : Value → Heap → Prop}
    (hk : DbK h D.1 D.2 k) : Ct 34 [v, .int .i64 s] h k := by
  obtain ⟨A, hA⟩ := Ar.ex
  obtain ⟨b1, n1, c1, b2, n2, c2, b3, n3, c3, b4, n4, c4, rfl⟩ := q.form
  have hH := ok.holds
  have hWt := ok.waits
  refine fn_of_sx A (tabOk T34.plan T34.pub) Tryz.func34 rfl (by kernel_rfl) ?_
  cbv
  refine begun43K q (fun h1 c tb wb ct cw W l1 hc htb hwb hct hcw hW ect ecw cs => ?_)
  have cs := cs.new hW
  cbv
  refine work50K cs s (fun h2 z t l2 hz ht => ?_)
  rw [wrkC_wf] at ht
  have l12 := l1.trans l2
  have q2 := q.mono l12
  cases t with
  | false =>
    have hDe : D = (d, 2) := by rw [← hD]; unfold rollbackD; rw [← ht]; rfl
    subst hDe
    cbv
    rw [show A .not false = true by rw [hA.not]; rfl]
    cbv
    refine own47K q2 (fun h3 b1 n1 c1 b2 n2 c2 b3 n3 c3 b4 n4 c4 l3 hd6 => ?_)
    have hfin := hk h3 b1 n1 c1 b2 n2 c2 b3 n3 c3 b4 n4 c4 (l12.trans l3) hd6
    cbv
    exact hfin
  | true =>
    have hDe : D = (backD d s, 0) := by rw [← hD]; unfold rollbackD; rw [← ht]; rfl
    subst hDe
    cbv
    rw [show A .not true = false by rw [hA.not]; rfl]
    cbv
    refine back70 (cs.mono l2) hct hcw ok.rows s (by omega) (by omega) (fun h3 k3 cs3 => ?_)
    rw [backT_wf, endW_wf] at cs3
    have l3 : Le h h3 := l12.kpNew (by simp [hc, htb, hwb]) k3
    refine cs3.elim (fun m1 m2 x3 m3 k3 x4 m4 k4 o g0 _ _ _ _ _ _ _ hrdb => ?_)
    rw [Wf_fst] at hrdb
    cbv
    rw [offm A]
    refine ldb g0 rfl rfl ?_
    cbv
    refine own47K hrdb (fun h4 b1 n1 c1 b2 n2 c2 b3 n3 c3 b4 n4 c4 l4 hd6 => ?_)
    have hfin := hk h4 b1 n1 c1 b2 n2 c2 b3 n3 c3 b4 n4 c4 (l3.trans l4) hd6
    cbv
    exact hfin

theorem commit28K {d : DB} {h : Heap} {v : Value} (q : RDB h v d) {n : Nat} (ok : Okd n d) (hn18 : n < 2 ^ 18) (s : Int) {D : DB × List Chg × Int} (hD : commitD d s = D) {k : Value → Heap → Prop}
    (hk : ∀ h' b1 n1 c1 b2 n2 c2 b3 n3 c3 b4 n4 c4 b5 n5 c5, Le h h' → RDB h' (.agg #[.slice b1 n1 c1, .slice b2 n2 c2, .slice b3 n3 c3, .slice b4 n4 c4]) D.1 → Sl 77 shChg h' (.slice b5 n5 c5) D.2.1 → k (.tuple #[.agg #[.slice b1 n1 c1, .slice b2 n2 c2, .slice b3 n3 c3, .slice b4 n4 c4], .slice b5 n5 c5, .int .i64 D.2.2]) h') : Ct 28 [v, .int .i64 s] h k := by
  obtain ⟨A, hA⟩ := Ar.ex
  obtain ⟨b1, n1, c1, b2, n2, c2, b3, n3, c3, b4, n4, c4, rfl⟩ := q.form
  have hH := ok.holds
  have hWt := ok.waits
  refine fn_of_sx A (tabOk T28.plan T28.pub) Tryz.func28 rfl (by kernel_rfl) ?_
  cbv
  refine begun43K q (fun h1 c tb wb ct cw W l1 hc htb hwb hct hcw hW ect ecw cs => ?_)
  have cs := cs.new hW
  cbv
  refine work50K cs s (fun h2 z t l2 hz ht => ?_)
  rw [wrkC_wf] at ht hz
  have l12 := l1.trans l2
  have q2 := q.mono l12
  cases t with
  | false =>
    have hDe : D = (d, [], 2) := by rw [← hD]; unfold commitD; rw [← ht]; rfl
    subst hDe
    cbv
    rw [show A .not false = true by rw [hA.not]; rfl]
    cbv
    refine own47K q2 (fun h3 b1 n1 c1 b2 n2 c2 b3 n3 c3 b4 n4 c4 l3 hd6 => ?_)
    have hfin := hk h3 b1 n1 c1 b2 n2 c2 b3 n3 c3 b4 n4 c4 none 0 0 (l12.trans l3) hd6 Sl.nil
    cbv
    exact hfin
  | true =>
    have hlt : bsI (wrkC d.works s) < d.works.length := by
      have := bsB_lt ht.symm
      simpa [wrkC] using this
    obtain ⟨w, hw⟩ := get_ex hlt
    have hDe : D = (⟨d.tabs, endK d.works s, wout d.holds s, wout d.waits s⟩, w.log, 0) := by rw [← hD]; unfold commitD; rw [← ht, hw]; rfl
    subst hDe
    clear hD
    generalize bsI (wrkC d.works s) = i at *
    have cs2 := cs.mono l2
    have hwW : (Wf d.works)[i]? = some (w, true) := by unfold Wf; rw [List.getElem?_map, hw]; rfl
    refine cs2.elim (fun m1 m2 x3 m3 k3 x4 m4 k4 o g0 _ _ _ f3 f4 _ _ _ => ?_)
    have hm2 : m2 = d.works.length := by rw [f3]; simp [Wf]
    have hck : (some (⟨wb, 0, none⟩ : Addr)).isSome = true ∧ 0 ≤ z ∧ z < (m2 : Int) := ⟨rfl, hz.ix (by omega)⟩
    cbv
    rw [show A .not true = false by rw [hA.not]; rfl]
    cbv
    rw [offm A]
    rw [offm A]
    refine ldb g0 rfl rfl ?_
    cbv
    refine ⟨hck, ?_⟩
    cbv
    refine ld_log (f4.sl f3) hwW hz.eq (fun y1 y2 y3 r7 r9 _ => ?_)
    cbv
    refine (each63 r7).mono (fun v h3 hR => ?_)
    obtain ⟨l3, nb, hnb, rfl, ol⟩ := hR
    have hy2 := r7.len
    have cs3 := cs2.mono l3
    have nbn : nb ∉ [c, wb] := fun hm => by
      simp at hm
      rcases hm with rfl | rfl
      · rw [hnb] at g0; cases g0
      · obtain ⟨x, hx, -⟩ := f4.out
        rw [hnb] at hx; cases hx
    cbv
    refine end65 cs3 hcw s (by omega) (by omega) (fun h4 k4 cs4 => ?_)
    rw [endW_wf] at cs4
    have l4 : Le h h4 := (l12.trans l3).kpNew (by simp [hc, hwb]) k4
    have ol4 : Sl 77 shChg h4 (.slice (some ⟨nb, 0, none⟩) y2 y2) w.log := by
      obtain ⟨x1, hx1, -⟩ := f4.out
      have htc : LeT [77, 68] h3 h4 := fun b c' e' fr' he hb => k4 b _ hb (fun hm => by
        simp at hm
        rcases hm with rfl | rfl
        · rw [l3 _ _ g0] at hb; cases hb; simp at he
        · rw [l3 _ _ hx1] at hb; cases hb; simp at he)
      exact (ol.mono (by exact htc)).sl hy2
    refine cs4.elim (fun m1 m2 x3 m3 k3 x4 m4 k4 o g0 _ _ _ _ _ _ _ hrdb => ?_)
    rw [Wf_fst] at hrdb
    cbv
    rw [offm A]
    refine ldb g0 rfl rfl ?_
    cbv
    refine own47K hrdb (fun h5 b1 n1 c1 b2 n2 c2 b3 n3 c3 b4 n4 c4 l5 hd6 => ?_)
    have hfin := hk h5 b1 n1 c1 b2 n2 c2 b3 n3 c3 b4 n4 c4 _ _ _ (l4.trans l5) hd6 (ol4.mono (l5.t _))
    cbv
    exact hfin

/-- A call's state whose tables are others. -/
theorem Cst.tabsOut {h h1 h' : Heap} {c tb wb ct cw : Nat} {T' : List Tbl} {W : List (Wrk × Bool)} {H Wt : List Hld} {e : Int} {n1 n2 m1 : Nat} {b3 b4 : Option Addr} {n3 c3 n4 c4 : Nat} {o : Int}
    (g0 : h c = some (.cells #[.slice (some ⟨tb, 0, none⟩) n1 ct, .slice (some ⟨wb, 0, none⟩) n2 cw, .slice b3 n3 c3, .slice b4 n4 c4, .int .u32 o, .int .i32 0, .int .u32 0, .int .i64 e] 124 (0, 0)))
    (ho : (o = 0 ∧ e = 0) ∨ (o = 1 ∧ e ≠ 0)) (g3 : n2 = W.length) (g4 : Own 60 shWrkG h wb cw W) (g6 : Sl 188 shHld h (.slice b3 n3 c3) H) (g7 : Sl 188 shHld h (.slice b4 n4 c4) Wt) (hm : m1 = T'.length)
    (l1 : ∀ tys, 43 ∉ tys → LeT tys h h1) (k1 : h1 c = h c) (gt : Own 43 shTbl h1 tb ct T')
    (hh : h' = hset h1 c (.cells #[.slice (some ⟨tb, 0, none⟩) m1 ct, .slice (some ⟨wb, 0, none⟩) n2 cw, .slice b3 n3 c3, .slice b4 n4 c4, .int .u32 o, .int .i32 0, .int .u32 0, .int .i64 e] 124 (0, 0))) :
    Kp [c] h1 h' ∧ Cst h' c tb wb ct cw T' W H Wt e := by
  have g0' := k1.trans g0
  have lt : ∀ tys, 124 ∉ tys → LeT tys h1 h' := fun tys hn => by rw [hh]; exact LeT.set g0' hn
  have l2 : ∀ tys, 43 ∉ tys → 124 ∉ tys → LeT tys h h' := fun tys a b => (l1 tys a).trans (lt tys b)
  refine ⟨by rw [hh]; exact Kp.set (by simp), m1, n2, b3, n3, c3, b4, n4, c4, o, by rw [hh]; exact hset_self, ho, hm, gt.mono (lt _ (by decide)), g3, g4.mono (l2 _ (by decide) (by decide)), g6.mono (l2 _ (by decide) (by decide)), g7.mono (l2 _ (by decide) (by decide))⟩

theorem drop30K {d : DB} {h : Heap} {v : Value} (q : RDB h v d) (name : ByteArray) {D : DB × Int} (hD : dropD d name = D) {k : Value → Heap → Prop}
    (hk : DbK h D.1 D.2 k) : Ct 30 [v, .string name] h k := by
  obtain ⟨A, hA⟩ := Ar.ex
  obtain ⟨b1, n1, c1, b2, n2, c2, b3, n3, c3, b4, n4, c4, rfl⟩ := q.form
  have hwl : n2 = d.works.length := by
    obtain ⟨_, _, _, _, _, _, _, _, _, _, _, _, ws, he, _, qw, _, _, hm⟩ := q.out
    cases he
    rw [qw.len, ← hm, List.length_map]
  refine fn_of_sx A (tabOk T30.plan T30.pub) Tryz.func30 rfl (by kernel_rfl) ?_
  cbv
  refine begun43K q (fun h1 c tb wb ct cw W l1 hc htb hwb hct hcw hW ect ecw cs => ?_)
  have cs := cs.new hW
  cbv
  refine table46K cs name (fun h2 z t l2 hz ht => ?_)
  have l12 := l1.trans l2
  have q2 := q.mono l12
  cases t with
  | false =>
    have hDe : D = (d, 2) := by rw [← hD]; unfold dropD; rw [← ht]; rfl
    subst hDe
    cbv
    rw [show A .not false = true by rw [hA.not]; rfl]
    cbv
    refine own47K q2 (fun h3 b1 n1 c1 b2 n2 c2 b3 n3 c3 b4 n4 c4 l3 hd6 => ?_)
    have hfin := hk h3 b1 n1 c1 b2 n2 c2 b3 n3 c3 b4 n4 c4 (l12.trans l3) hd6
    cbv
    exact hfin
  | true =>
    have hlt : bsI (tabCmps d.tabs name) < d.tabs.length := by
      have := bsB_lt ht.symm
      simpa [tabCmps] using this
    have hDe : D = if decide ((d.works.length : Int) > 0) = true then (d, 18) else (⟨d.tabs.eraseIdx (bsI (tabCmps d.tabs name)), d.works, d.holds, d.waits⟩, 0) := by rw [← hD]; unfold dropD; rw [← ht]; rfl
    clear hD
    generalize bsI (tabCmps d.tabs name) = i at *
    generalize eu : A .icm .gtr (A .nat n2) 0 = u
    have fu := eu
    rw [icm_gtr A, hA.nat, hwl, show Int.ofNat d.works.length = (d.works.length : Int) from rfl] at eu
    rw [eu] at hDe
    cbv
    rw [show A .not true = false by rw [hA.not]; rfl]
    cbv
    rw [fu]
    cases u with
    | true =>
      have hDe : D = (d, 18) := hDe
      subst hDe
      cbv
      refine own47K q2 (fun h3 b1 n1 c1 b2 n2 c2 b3 n3 c3 b4 n4 c4 l3 hd6 => ?_)
      have hfin := hk h3 b1 n1 c1 b2 n2 c2 b3 n3 c3 b4 n4 c4 (l12.trans l3) hd6
      cbv
      exact hfin
    | false =>
      have hDe : D = (⟨d.tabs.eraseIdx i, d.works, d.holds, d.waits⟩, 0) := hDe
      subst hDe
      have cs2 := cs.mono l2
      refine cs2.elim (fun m1 m2 x3 m3 k3 x4 m4 k4 o g0 ho f1 f2 f3 f4 f6 f7 _ => ?_)
      have hbd := f2.bd
      have hz1 := hz.succ (A := A) (by omega)
      have hlV : (d.tabs.eraseIdx i).length = m1 - 1 := by rw [List.length_eraseIdx_of_lt hlt]; omega
      cbv
      rw [offm A]
      rw [offm A]
      refine ldb g0 rfl rfl ?_
      cbv
      refine delete67 f2 f1 hz hz1 (by omega) (fun h3 m hm k3 t3 o3 => ?_)
      have gc3 : h3 c = h2 c := (k3 _ _ g0 (by simpa using hct)).trans g0.symm
      have hcs := fun h4 hh => Cst.tabsOut (h' := h4) g0 ho f3 f4 f6 f7 (hm.trans hlV.symm) t3 gc3 o3 hh
      have gc3' := gc3.trans g0
      cbv
      rw [offm A]
      rw [offm A]
      refine stb gc3' (by simp) (fun h4 e4 => ?_)
      obtain ⟨k4, cs4⟩ := hcs h4 e4
      clear hcs e4
      have l4 : Le h h4 := l12.kpNew (bs := [tb, c]) (by simp [hc, htb]) ((k3.sub (by simp)).trans (k4.sub (by simp)))
      refine cs4.elim (fun m1 m2 x3 m3 k3 x4 m4 k4 o g0 _ _ _ _ _ _ _ hrdb => ?_)
      rw [Wf_fst] at hrdb
      cbv
      rw [offm A]
      refine ldb g0 rfl rfl ?_
      cbv
      refine own47K hrdb (fun h5 b1 n1 c1 b2 n2 c2 b3 n3 c3 b4 n4 c4 l5 hd6 => ?_)
      have hfin := hk h5 b1 n1 c1 b2 n2 c2 b3 n3 c3 b4 n4 c4 (l4.trans l5) hd6
      cbv
      exact hfin

theorem rows31K {d : DB} {h : Heap} {v : Value} (q : RDB h v d) {n : Nat} (ok : Okd n d) (hn18 : n < 2 ^ 18) (s : Int) (hsr : -2 ^ 63 ≤ s ∧ s < 2 ^ 63) (name : ByteArray) {D : DB × List Row × Int} (hD : rowsD d s name = D) {k : Value → Heap → Prop}
    (hk : ∀ h' b1 n1 c1 b2 n2 c2 b3 n3 c3 b4 n4 c4 b5 n5 c5, Le h h' → RDB h' (.agg #[.slice b1 n1 c1, .slice b2 n2 c2, .slice b3 n3 c3, .slice b4 n4 c4]) D.1 → Sl 63 shRow h' (.slice b5 n5 c5) D.2.1 → k (.tuple #[.agg #[.slice b1 n1 c1, .slice b2 n2 c2, .slice b3 n3 c3, .slice b4 n4 c4], .slice b5 n5 c5, .int .i64 D.2.2]) h') : Ct 31 [v, .int .i64 s, .string name] h k := by
  obtain ⟨A, hA⟩ := Ar.ex
  obtain ⟨b1, n1, c1, b2, n2, c2, b3, n3, c3, b4, n4, c4, rfl⟩ := q.form
  have hOn := holdF_on ok (hd := ⟨s, name, false⟩) hsr
  unfold rowsD at hD
  obtain ⟨D0, hHD⟩ : ∃ D0, holdF d ⟨s, name, false⟩ = D0 := ⟨_, rfl⟩
  rw [hHD] at hD hOn
  obtain ⟨d1, e⟩ := D0
  have hOn : e = 0 → bsB (tabCmps d1.tabs name) = true ∧ bsB (wrkC d1.works s) = true := hOn
  have hD : (if decide (e ≠ 0) = true then ((d1, [], e) : DB × List Row × Int) else (d1, match d1.tabs[bsI (tabCmps d1.tabs name)]? with
    | some t => t.rows
    | none => [], 0)) = D := hD
  refine fn_of_sx A (tabOk T31.plan T31.pub) Tryz.func31 rfl (by kernel_rfl) ?_
  cbv
  refine hold20K q ok hn18 s name false hHD (fun h1 b1 n1 c1 b2 n2 c2 b3 n3 c3 b4 n4 c4 l1 q1' => ?_)
  have q1 : RDB h1 _ d1 := q1'
  clear q1'
  generalize eu : A .icm .neq e 0 = u
  have fu := eu
  rw [icm_neq A] at eu
  rw [eu] at hD
  cbv
  rw [fu]
  cases u with
  | true =>
    have hD : ((d1, [], e) : DB × List Row × Int) = D := hD
    subst hD
    have hfin := hk h1 b1 n1 c1 b2 n2 c2 b3 n3 c3 b4 n4 c4 none 0 0 l1 q1 Sl.nil
    cbv
    exact hfin
  | false =>
    have he0 : e = 0 := Decidable.not_not.1 (of_decide_eq_false eu)
    subst he0
    obtain ⟨hbt, -⟩ := hOn rfl
    have hkt := bsB_lt hbt
    have hkt : bsI (tabCmps d1.tabs name) < d1.tabs.length := by simpa [tabCmps] using hkt
    obtain ⟨t, ht⟩ := get_ex hkt
    have hD : ((d1, t.rows, 0) : DB × List Row × Int) = D := by rw [← hD, ht]; rfl
    subst hD
    cbv
    refine begun43K q1 (fun h2 c tb wb ct cw W l2 hc htb hwb hct hcw hW ect ecw cs => ?_)
    cbv
    refine table46K cs name (fun h3 z t' l3 hz ht' => ?_)
    generalize bsI (tabCmps d1.tabs name) = i at *
    have cs3 := cs.mono l3
    refine cs3.elim (fun m1 m2 x3 m3 k3 x4 m4 k4 o g0 _ f1 f2 _ _ _ _ _ => ?_)
    have hck : (some (⟨tb, 0, none⟩ : Addr)).isSome = true ∧ 0 ≤ z ∧ z < (m1 : Int) := ⟨rfl, hz.ix (by omega)⟩
    have l13 := (l1.trans l2).trans l3
    cbv
    rw [offm A]
    rw [offm A]
    refine ldb g0 rfl rfl ?_
    cbv
    refine ⟨hck, ?_⟩
    cbv
    refine (f2.sl f1).loadFP ht hz.eq (o := 4) (m := 1) (by decide) (fun cs hcs ag => ?_)
    obtain ⟨d2, p1, r1, d3, p2, r2, rfl, s1, s2⟩ := hcs
    have s2 : Sl 63 shRow h3 (.slice d3 p2 r2) t.rows := s2
    have hfin := hk h3 b1 n1 c1 b2 n2 c2 b3 n3 c3 b4 n4 c4 d3 p2 r2 l13 (q1.mono (l2.trans l3)) s2
    cbv
    refine ag _ _ (Le.refl _) ?_
    cbv
    refine ⟨⟨_, rfl, rfl⟩, ?_⟩
    cbv
    refine ldb g0 rfl rfl ?_
    cbv
    refine ⟨⟨_, rfl, rfl⟩, ?_⟩
    cbv
    exact hfin
end Go.S

set_option maxRecDepth 100000
set_option maxHeartbeats 8000000
set_option linter.unusedVariables false
set_option linter.unusedSimpArgs false
namespace Go.S
open Go.Sx Go.Proofs

/-- The last mark of a name below a place. -/
def mkF (l : List Mrk) (nm : ByteArray) : Nat → Option Nat
  | 0 => none
  | i + 1 => match l[i]? with
    | some m => if decide (m.name = nm) = true then some i else mkF l nm i
    | none => mkF l nm i
def backM (d : DB) (s : Int) (nm : ByteArray) : DB × Int :=
  if bsB (wrkC d.works s) = true then match d.works[bsI (wrkC d.works s)]? with
    | some w => match mkF w.marks nm w.marks.length with
      | some k => (⟨undoL d.tabs (w.log.drop (undoN (((w.marks[k]?).map (·.at_)).getD 0) w.log.length)), d.works.set (bsI (wrkC d.works s)) ⟨w.s, w.log.take (undoN (((w.marks[k]?).map (·.at_)).getD 0) w.log.length), w.marks.take (k + 1)⟩, d.holds, d.waits⟩, 0)
      | none => (d, 2)
    | none => (d, 2)
  else (d, 2)

theorem _root_.Go.Sx.Kp.letyp2 {h h' : Heap} {n1 n2 e1 e2 : Nat} {c1 c2 : Array Value} {f1 f2 : Nat × Nat} (k : Kp [n1, n2] h h') (g1 : h n1 = some (.cells c1 e1 f1)) (g2 : h n2 = some (.cells c2 e2 f2)) {tys : List Nat} (h1 : e1 ∉ tys) (h2 : e2 ∉ tys) : LeT tys h h' := fun b d e' fr' hm hb =>
  k b _ hb (by
    intro hb2
    simp at hb2
    rcases hb2 with rfl | rfl
    · rw [g1] at hb; cases hb; exact h1 hm
    · rw [g2] at hb; cases hb; exact h2 hm)

theorem back32K {d : DB} {h : Heap} {v : Value} (q : RDB h v d) {n : Nat} (ok : Okd n d) (s : Int) (nm : ByteArray) {D : DB × Int} (hD : backM d s nm = D) {k : Value → Heap → Prop}
    (hk : DbK h D.1 D.2 k) : Ct 32 [v, .int .i64 s, .string nm] h k := by
  obtain ⟨A, hA⟩ := Ar.ex
  obtain ⟨b1, n1, c1, b2, n2, c2, b3, n3, c3, b4, n4, c4, rfl⟩ := q.form
  refine fn_of_sx A (tabOk T32.plan T32.pub) Tryz.func32 rfl (by kernel_rfl) ?_
  cbv
  refine begun43K q (fun h1 c tb wb ct cw W l1 hc htb hwb hct hcw hW ect ecw cs => ?_)
  have cs := cs.new hW
  cbv
  refine work50K cs s (fun h2 z t l2 hz ht => ?_)
  rw [wrkC_wf] at ht hz
  have l12 := l1.trans l2
  have q2 := q.mono l12
  cases t with
  | false =>
    have hDe : D = (d, 2) := by rw [← hD]; unfold backM; rw [← ht]; rfl
    subst hDe
    cbv
    rw [show A .not false = true by rw [hA.not]; rfl]
    cbv
    refine own47K q2 (fun h3 b1 n1 c1 b2 n2 c2 b3 n3 c3 b4 n4 c4 l3 hd6 => ?_)
    have hfin := hk h3 b1 n1 c1 b2 n2 c2 b3 n3 c3 b4 n4 c4 (l12.trans l3) hd6
    cbv
    exact hfin
  | true =>
    have hlt : bsI (wrkC d.works s) < d.works.length := by
      have := bsB_lt ht.symm
      simpa [wrkC] using this
    obtain ⟨w, hw⟩ := get_ex hlt
    have hDe : (match mkF w.marks nm w.marks.length with
      | some k => ((⟨undoL d.tabs (w.log.drop (undoN (((w.marks[k]?).map (·.at_)).getD 0) w.log.length)), d.works.set (bsI (wrkC d.works s)) ⟨w.s, w.log.take (undoN (((w.marks[k]?).map (·.at_)).getD 0) w.log.length), w.marks.take (k + 1)⟩, d.holds, d.waits⟩, 0) : DB × Int)
      | none => (d, 2)) = D := by rw [← hD]; unfold backM; rw [← ht, hw]; rfl
    clear hD
    obtain ⟨i, hi⟩ : ∃ i, i = bsI (wrkC d.works s) := ⟨_, rfl⟩
    rw [← hi] at hDe hw hz
    clear hi hlt
    have cs2 := cs.mono l2
    have hwW : (Wf d.works)[i]? = some (w, true) := by unfold Wf; rw [List.getElem?_map, hw]; rfl
    refine cs2.elim (fun m1 m2 x3 m3 k3 x4 m4 k4 o g0 _ _ f2 f3 f4 _ _ _ => ?_)
    have hm2 : m2 = d.works.length := by rw [f3]; simp [Wf]
    have hil := (List.getElem?_eq_some_iff.1 hw).1
    have hck : (some (⟨wb, 0, none⟩ : Addr)).isSome = true ∧ 0 ≤ z ∧ z < (m2 : Int) := ⟨rfl, hz.ix (by omega)⟩
    obtain ⟨ws, wl, wm⟩ := w
    have hDe : (match mkF wm nm wm.length with
      | some k => ((⟨undoL d.tabs (wl.drop (undoN (((wm[k]?).map (·.at_)).getD 0) wl.length)), d.works.set i ⟨ws, wl.take (undoN (((wm[k]?).map (·.at_)).getD 0) wl.length), wm.take (k + 1)⟩, d.holds, d.waits⟩, 0) : DB × Int)
      | none => (d, 2)) = D := hDe
    cbv
    rw [show A .not true = false by rw [hA.not]; rfl]
    cbv
    rw [offm A]
    rw [offm A]
    refine ldb g0 rfl rfl ?_
    cbv
    refine ⟨hck, ?_⟩
    cbv
    refine ld_marks (f4.sl f3) hwW hz.eq (fun y1 y2 y3 qm _ => ?_)
    have qm : Sl 145 shMrk h2 (.slice y1 y2 y3) wm := qm
    have hml := qm.len
    have hmb := qm.bound
    have hzn : IsM (A .ari .sub .i64 (A .nat y2) 1) y2 := (IsN.nat y2).pred (by omega)
    obtain ⟨I, hI0⟩ : ∃ I : Int → Nat → Heap → Prop, ∀ g m h', I g m h' = ∃ j : Nat, IsM g j ∧ m = j ∧ j ≤ y2 ∧ h' = h2 ∧ mkF wm nm wm.length = mkF wm nm j := ⟨_, fun _ _ _ => rfl⟩
    cbv
    refine LoopX.go (G := Int) (fun g => [(12, .v (.int .i64 g))]) (fun _ => [(3, [.slice b1 n1 c1, .slice b2 n2 c2, .slice b3 n3 c3, .slice b4 n4 c4]), (6, [.slice none 0 0, .slice none 0 0, .slice none 0 0, .slice none 0 0])]) (fun m g h' => I g m h') y2 (A .ari .sub .i64 (A .nat y2) 1) ⟨?_, ?_, ?_⟩ (by rw [hI0]; exact ⟨y2, hzn, rfl, Nat.le_refl _, rfl, by rw [hml]⟩) ?_
    · cbv
    · cbv
    · cbv
    · intro m g h' hI
      rw [hI0] at hI
      cbv
      obtain ⟨j, hg, hm, hj, rfl, hF⟩ := hI
      rw [hg.ge (A := A)]
      cases j with
      | zero =>
        have hF : mkF wm nm wm.length = none := hF
        rw [hF] at hDe
        have hDe : (d, 2) = D := hDe
        subst hDe
        rw [show decide (1 ≤ 0) = false from rfl]
        cbv
        refine own47K q2 (fun h3 b1 n1 c1 b2 n2 c2 b3 n3 c3 b4 n4 c4 l3 hd6 => ?_)
        have hfin := hk h3 b1 n1 c1 b2 n2 c2 b3 n3 c3 b4 n4 c4 (l12.trans l3) hd6
        cbv
        exact hfin
      | succ j =>
        have hgN : IsN g j := hg.isn
        obtain ⟨⟨xn, xa⟩, hx⟩ := get_ex (xs := wm) (i := j) (by omega)
        have hckm : y1.isSome = true ∧ 0 ≤ g ∧ g < (y2 : Int) := ⟨qm.isSm (by omega), hgN.ix (by omega)⟩
        have hstep : mkF wm nm (j + 1) = if decide (xn = nm) = true then some j else mkF wm nm j := by
          show (match wm[j]? with | some m => if decide (m.name = nm) = true then some j else mkF wm nm j | none => mkF wm nm j) = _
          rw [hx]
        rw [hstep] at hF
        have eu0 : A .scm .eql xn nm = decide (xn = nm) := scm_eql A ..
        rw [show decide (1 ≤ j + 1) = true from decide_eq_true (by omega)]
        cbv
        refine ⟨hckm, ?_⟩
        cbv
        refine qm.loadF hx hgN.eq (o := 0) (m := 1) (by decide) (fun cs hcs => ?_)
        have hcs : cs = [.string xn, .int .i64 xa] := hcs
        subst hcs
        cbv
        rw [eu0]
        generalize decide (xn = nm) = u at *
        cases u with
        | false =>
          have hF : mkF wm nm wm.length = mkF wm nm j := hF
          have hn := hgN.pred (A := A) (by omega)
          have hI2 : I (A .ari .sub .i64 g 1) j h' := by rw [hI0]; exact ⟨j, hn, rfl, by omega, rfl, hF⟩
          cbv
          refine ⟨j, _, by omega, ⟨?_, ?_, ?_⟩, hI2⟩
          · cbv
          · cbv
          · cbv
        | true =>
          have hF : mkF wm nm wm.length = some j := hF
          rw [hF] at hDe
          have hDe : ((⟨undoL d.tabs (wl.drop (undoN (((wm[j]?).map (·.at_)).getD 0) wl.length)), d.works.set i ⟨ws, wl.take (undoN (((wm[j]?).map (·.at_)).getD 0) wl.length), wm.take (j + 1)⟩, d.holds, d.waits⟩, 0) : DB × Int) = D := hDe
          rw [hx] at hDe
          have hDe : ((⟨undoL d.tabs (wl.drop (undoN xa wl.length)), d.works.set i ⟨ws, wl.take (undoN xa wl.length), wm.take (j + 1)⟩, d.holds, d.waits⟩, 0) : DB × Int) = D := hDe
          have h1N := hgN.succ (A := A) (by omega)
          have htk := qm.takeX (A := A) (i := j + 1) (by omega)
          have hd6 := dif_z0 (A := A) h1N
          have hck6 : 0 ≤ A .ari .add .i64 g 1 ∧ A .ari .add .i64 g 1 ≤ (y3 : Int) := by have := h1N.eq; omega
          cbv
          refine ⟨hckm, ?_⟩
          cbv
          refine qm.loadF hx hgN.eq (o := 1) (m := 1) (by decide) (fun cs hcs => ?_)
          have hcs : cs = [.string xn, .int .i64 xa] := hcs
          subst hcs
          cbv
          refine undo68 cs2 hct hcw ok.rows hz hwW xa (fun h3 k3' cs3' => ?_)
          have cs3 : Cst h3 c tb wb ct cw (undoL d.tabs (wl.drop (undoN xa wl.length))) ((Wf d.works).set i (⟨ws, wl.take (undoN xa wl.length), wm⟩, false)) d.holds d.waits 0 := cs3'
          clear cs3'
          refine cs3.elim (fun m1' m2' x3 m3 k3 x4 m4 k4 o g0' ho F1 F2 F3 F4 F6 F7 _ => ?_)
          have hm2' : m2' = d.works.length := by rw [F3]; simp [Wf]
          have hck' : (some (⟨wb, 0, none⟩ : Addr)).isSome = true ∧ 0 ≤ z ∧ z < (m2' : Int) := ⟨rfl, hz.ix (by omega)⟩
          cbv
          rw [offm A]
          rw [offm A]
          refine ldb g0' rfl rfl ?_
          cbv
          refine ⟨hck6, ?_⟩
          cbv
          refine ⟨hck', ?_⟩
          cbv
          have htm : Sl 145 shMrk h' (.slice (A .cut y1 0 (A .nat y3) 2) (j + 1) y3) (wm.take (j + 1)) := htk
          have htm3 : Sl 145 shMrk h3 (.slice (A .cut y1 0 (A .nat y3) 2) (j + 1) y3) (wm.take (j + 1)) := by
            obtain ⟨a1, ha1, -⟩ := f2.out
            obtain ⟨a2, ha2, -⟩ := f4.out
            exact htm.mono (k3'.letyp2 ha1 ha2 (by decide) (by decide))
          have hwW3 : ((Wf d.works).set i (⟨ws, wl.take (undoN xa wl.length), wm⟩, false))[i]? = some (⟨ws, wl.take (undoN xa wl.length), wm⟩, false) := by
            rw [List.getElem?_set_self (by simpa [Wf] using hil)]
          rw [hd6]
          refine F4.setF (by decide) hwW3 hz.eq rfl (off := 2) (by simp [shWrkG]) (x' := (⟨ws, wl.take (undoN xa wl.length), wm.take (j + 1)⟩, false)) (fun cs hcs => ?_) (fun h4 k4' t4 o4 => ?_)
          · obtain ⟨x1, y1', z1, x2, y2', z2, rfl, j1, j2, j3⟩ := hcs
            exact ⟨_, _, _, _, _, _, rfl, j1, htm3, fun hf => by cases hf⟩
          have g04 := k4' _ _ g0' (by simpa using hcw)
          have hdb : RDB h4 (.agg #[.slice (some ⟨tb, 0, none⟩) m1' ct, .slice (some ⟨wb, 0, none⟩) m2' cw, .slice x3 m3 k3, .slice x4 m4 k4]) ⟨undoL d.tabs (wl.drop (undoN xa wl.length)), d.works.set i ⟨ws, wl.take (undoN xa wl.length), wm.take (j + 1)⟩, d.holds, d.waits⟩ := by
            refine ⟨_, _, _, _, _, _, _, _, _, _, _, _, _, rfl, (F2.mono (t4 _ (by decide))).sl F1, o4.sl (by rw [List.length_set]; exact F3), F6.mono (t4 _ (by decide)), F7.mono (t4 _ (by decide)), ?_⟩
            simp only [List.map_set, Wf_fst, List.set_set]
          have l4 : Le h h4 := l12.kpNew (bs := [tb, wb]) (by simp [htb, hwb]) (k3'.trans (k4'.sub (by simp)))
          subst hDe
          cbv
          rw [offm A]
          refine ldb g04 rfl rfl ?_
          cbv
          refine own47K hdb (fun h5 b1 n1 c1 b2 n2 c2 b3 n3 c3 b4 n4 c4 l5 hd6 => ?_)
          have hfin := hk h5 b1 n1 c1 b2 n2 c2 b3 n3 c3 b4 n4 c4 (l4.trans l5) hd6
          cbv
          exact hfin
end Go.S

