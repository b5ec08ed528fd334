import Derived.Test.YtnfijhlegoagjaaGreatEB
import Derived.Test.YtnfijhlegoagjaaGreatRd
set_option linter.unusedVariables false
set_option linter.unusedSimpArgs false
set_option linter.unusedSectionVars false
set_option maxRecDepth 100000
set_option maxHeartbeats 8000000
set_option linter.unusedVariables false
set_option linter.unusedSimpArgs false
namespace Go.S
open Go.Sx Go.Proofs

def wrkC (W : List Wrk) (s : Int) : List Int := W.map fun x => IntKind.i64.wrap (x.s - s)
theorem wrkC_eq (W : List Wrk) (s : Int) : wrkCmps (W.map fun w => (w, true)) s = wrkC W s := by simp [wrkCmps, wrkC]
def onD (d : DB) (hd : Hld) : Bool := bsB (wrkC d.works hd.s) && bsB (tabCmps d.tabs hd.table)
def holdD (d : DB) (hd : Hld) : DB × Int :=
  if onD d hd = true then (⟨d.tabs, d.works, askH d.holds hd, askW d.holds d.waits hd⟩, if askFree d.holds hd = true then 0 else 16) else (d, 2)
theorem holdD_eq (d : DB) (hd : Hld) : holdD d hd = (⟨d.tabs, d.works, holdH d.tabs (d.works.map fun w => (w, true)) d.holds hd, holdW d.tabs (d.works.map fun w => (w, true)) d.holds d.waits hd⟩, holdE d.tabs (d.works.map fun w => (w, true)) d.holds hd) := by
  unfold holdD holdH holdW holdE onD holdOn
  rw [wrkC_eq]
  split <;> rfl
/-- Nobody waits in a ring. -/
def Calm (d : DB) (hd : Hld) : Prop := askFree d.holds hd = false → (victim (edges (askH d.holds hd) (askW d.holds d.waits hd)) hd.s).2 = false
def changeR (d : DB) (hd : Hld) (act : Tbl → Tbl × Chg × Int) : DB × Int :=
  if decide ((holdD d hd).2 ≠ 0) = true then holdD d hd
  else match d.tabs[bsI (tabCmps d.tabs hd.table)]?, d.works[bsI (wrkC d.works hd.s)]? with
    | some t, some w =>
      if decide ((act t).2.2 ≠ 19) && decide ((w.log.length : Int) ≥ 60) then ((holdD d hd).1, 4)
      else if decide ((act t).2.2 = 0) = true then
        (⟨d.tabs.set (bsI (tabCmps d.tabs hd.table)) (act t).1, d.works.set (bsI (wrkC d.works hd.s)) ⟨w.s, w.log ++ [⟨hd.table, (act t).2.1.op, (act t).2.1.row⟩], w.marks⟩, (holdD d hd).1.holds, (holdD d hd).1.waits⟩, 0)
      else ((holdD d hd).1, (act t).2.2)
    | _, _ => holdD d hd
structure Small (d : DB) : Prop where
  tabs : d.tabs.length ≤ 2 ^ 37
  works : d.works.length ≤ 2 ^ 37
  rows : ∀ t ∈ d.tabs, t.rows.length ≤ 2 ^ 37
  holds : d.holds.length < 2 ^ 18
  waits : d.waits.length < 2 ^ 18

theorem change58p {d : DB} {h : Heap} {v : Value} (q : RDB h v d) (sm : Small d) (s : Int) (name : ByteArray) {rb : Nat} {r : Row} {vb : Option Addr} {vn vc : Nat} (gr : h rb = some (.cells #[.slice vb vn vc] 63 (0, 0))) (qr : Sl 68 shVal h (.slice vb vn vc) r) (hv : Calm d ⟨s, name, true⟩) :
    Ct 58 [v, .int .i64 s, .string name, .func (.func 55) #[] #[.pointer (some ⟨rb, 0, none⟩)]] h (fun v' h' => ∃ v1 e d', v' = .tuple #[v1, .int .i64 e] ∧ Le h h' ∧ RDB h' v1 d' ∧ (d', e) = changeR d ⟨s, name, true⟩ (doPut r)) := by
  obtain ⟨A, hA⟩ := Ar.ex
  obtain ⟨b1, n1, c1, b2, n2, c2, b3, n3, c3, b4, n4, c4, rfl⟩ := q.form
  generalize hD : changeR d ⟨s, name, true⟩ (doPut r) = D
  refine fn_of_sx A (tabOk T58.plan T58.pub) Tryz.func58 rfl (by kernel_rfl) ?_
  cbv
  refine begun43K q (fun h1 c tb wb ct cw W l1 hc htb hwb hct hcw hW ect ecw cs => ?_)
  cbv
  refine (hold53 cs ⟨s, name, true⟩ sm.holds sm.waits hct hcw hv).mono (fun v h2 hR => ?_)
  obtain ⟨k2, e, rfl, ee, cs2⟩ := hR
  have l2 : Le h h2 := l1.kpNew (by simpa using hc) k2
  have hHD : holdD d ⟨s, name, true⟩ = (⟨d.tabs, d.works, holdH d.tabs W d.holds ⟨s, name, true⟩, holdW d.tabs W d.holds d.waits ⟨s, name, true⟩⟩, e) := by rw [holdD_eq, ee, hW]
  generalize holdH d.tabs W d.holds ⟨s, name, true⟩ = H' at *
  generalize holdW d.tabs W d.holds d.waits ⟨s, name, true⟩ = Wt' at *
  have hWf : W.map (·.1) = d.works := by rw [hW, List.map_map]; simp [Function.comp_def]
  generalize eu : A .icm .neq e 0 = u
  have fu := eu
  rw [icm_neq A] at eu
  cbv
  rw [fu]
  cases u with
  | true =>
    have hDe : D = (⟨d.tabs, d.works, H', Wt'⟩, e) := by rw [← hD]; unfold changeR; rw [hHD, eu]; rfl
    refine cs2.elim (fun m1 m2 x3 m3 k3 x4 m4 k4 o g0 _ _ _ _ _ _ _ hrdb => ?_)
    rw [hWf] at hrdb
    cbv
    rw [offm A]
    refine ldb g0 rfl rfl ?_
    cbv
    refine own47K hrdb (fun h3 b1 n1 c1 b2 n2 c2 b3 n3 c3 b4 n4 c4 l3 hd6 => ?_)
    cbv
    exact ⟨_, e, _, rfl, l2.trans l3, hd6, hDe.symm⟩
  | false =>
    have he0 : e = 0 := Decidable.not_not.1 (of_decide_eq_false eu)
    subst he0
    have hon : holdOn d.tabs W s name = true := by
      cases hoff : holdOn d.tabs W s name with
      | true => rfl
      | false => unfold holdE at ee; simp only [hoff] at ee; cases ee
    have hon2 := hon
    unfold holdOn at hon2
    rw [Bool.and_eq_true] at hon2
    obtain ⟨hbw, hbt⟩ := hon2
    have hkt := bsB_lt hbt
    have hkw := bsB_lt hbw
    rw [hW, wrkC_eq] at hkw
    simp only [tabCmps, wrkC, List.length_map] at hkt hkw
    obtain ⟨t, ht⟩ := get_ex (xs := d.tabs) (i := bsI (tabCmps d.tabs name)) hkt
    obtain ⟨w, hw⟩ := get_ex (xs := d.works) (i := bsI (wrkC d.works s)) hkw
    cbv
    refine (table46 cs2 name).mono (fun v h3 hR => ?_)
    obtain ⟨l3, zt, tt, rfl, hbt2⟩ := hR
    obtain ⟨hzt, -⟩ := hbt2.at_
    have hzt : IsN zt (bsI (tabCmps d.tabs name)) := hzt
    cbv
    refine (work50 (cs2.mono l3) s).mono (fun v h4 hR => ?_)
    obtain ⟨l4, zw, tw, rfl, hbw2⟩ := hR
    obtain ⟨hzw, -⟩ := hbw2.at_
    have hzw : IsN zw (bsI (wrkC d.works s)) := by
      have h1 : IsN zw (bsI (wrkCmps W s)) := hzw
      rw [hW, wrkC_eq] at h1; exact h1
    have hktl := (List.getElem?_eq_some_iff.1 ht).1
    have hkwl := (List.getElem?_eq_some_iff.1 hw).1
    generalize hkte : bsI (tabCmps d.tabs name) = kt at *
    generalize hkwe : bsI (wrkC d.works s) = kw at *
    have l34 := l3.trans l4
    have lh4 := l2.trans l34
    have cs4 := cs2.mono l34
    refine cs4.elim (fun m1 m2 x3 m3 k3 x4 m4 k4 o f0 f1 f2 f3 f4 f5 f6 f7 _ => ?_)
    have hm2 : m2 = d.works.length := by rw [f4, hW, List.length_map]
    have hwW : W[kw]? = some (w, true) := by rw [hW, List.getElem?_map, hw]; rfl
    have hckw : (some (⟨wb, 0, none⟩ : Addr)).isSome = true ∧ 0 ≤ zw ∧ zw < (m2 : Int) := ⟨rfl, hzw.ix (by omega)⟩
    have hckt : (some (⟨tb, 0, none⟩ : Addr)).isSome = true ∧ 0 ≤ zt ∧ zt < (m1 : Int) := ⟨rfl, hzt.ix (by omega)⟩
    cbv
    rw [offm A]
    rw [offm A]
    refine ldb f0 rfl rfl ?_
    cbv
    refine ⟨hckw, ?_⟩
    cbv
    rw [offm A]
    rw [offm A]
    refine ldb f0 rfl rfl ?_
    cbv
    refine ⟨hckt, ?_⟩
    cbv
    obtain ⟨⟨nm, cols, key, only⟩, rows⟩ := t
    refine ld_tbl (f3.sl f2) ht hzt.eq (fun y1 y2 y3 y4 y5 y6 r1 r2 => ?_)
    have hrl : y5 ≤ 2 ^ 37 := by have := sm.rows _ (List.mem_of_getElem? ht); have := r2.len; simp only at *; omega
    cbv
    refine put55e (nm := nm) (key := key) (only := only) r1 r2 (lh4 _ _ gr) (qr.mono (lh4.t _)) hrl (fun h5 z1 z2 z3 z4 z5 z6 z7 z8 z9 e1 T1 C1 l5 r3 r4 r5 r6 => ?_)
    have lh5 := lh4.trans l5
    have cs5 := cs4.mono l5
    have hDe : D = (if decide (e1 ≠ 19) && decide ((w.log.length : Int) ≥ 60) then (⟨d.tabs, d.works, H', Wt'⟩, 4)
        else if decide (e1 = 0) = true then (⟨d.tabs.set kt ⟨⟨nm, cols, key, only⟩, T1⟩, d.works.set kw ⟨w.s, w.log ++ [⟨name, C1.op, C1.row⟩], w.marks⟩, H', Wt'⟩, 0) else (⟨d.tabs, d.works, H', Wt'⟩, e1)) := by
      rw [← hD]
      unfold changeR
      rw [hHD]
      simp only
      rw [hkte, hkwe, ht, hw]
      simp only
      rw [← r6]
      rfl
    have fin : ∀ (e : Int) (hh : Heap) (v : Value), Le h hh → RDB hh v ⟨d.tabs, d.works, H', Wt'⟩ → D = (⟨d.tabs, d.works, H', Wt'⟩, e) → ∃ v1 e1 d', Value.tuple #[v, .int .i64 e] = .tuple #[v1, .int .i64 e1] ∧ Le h hh ∧ RDB hh v1 d' ∧ (d', e1) = D :=
      fun e hh v l r hE => ⟨v, e, _, rfl, l, r, hE.symm⟩
    refine cs5.elim (fun p1 p2 p3 p4 p5 p6 p7 p8 p9 g0 i1 i2 i3 i4 i5 i6 i7 hrdb => ?_)
    rw [hWf] at hrdb
    generalize e19 : A .icm .neq e1 19 = u19
    have f19 := e19
    rw [icm_neq A] at e19
    generalize e00 : A .icm .eql e1 0 = u0
    have f00 := e00
    rw [icm_eql A] at e00
    rw [e19, e00] at hDe
    cbv
    rw [f19]
    cases u19 with
    | false =>
      have h19 : e1 = 19 := Decidable.not_not.1 (of_decide_eq_false e19)
      have hu0 : u0 = false := by rw [← e00, h19]; rfl
      subst hu0
      have hDe : D = (⟨d.tabs, d.works, H', Wt'⟩, e1) := hDe
      cbv
      rw [f00]
      cbv
      rw [offm A]
      refine ldb g0 rfl rfl ?_
      cbv
      refine own47K hrdb (fun h6 b1 n1 c1 b2 n2 c2 b3 n3 c3 b4 n4 c4 l6 hd6 => ?_)
      cbv
      exact fin e1 _ _ (lh5.trans l6) hd6 hDe
    | true =>
      have hk3 := hzw.eq
      cbv
      refine ld_log (i5.sl i4) hwW hzw.eq (fun y1 y2 y3 r7 r9 _ => ?_)
      generalize e60 : A .icm .geq (A .nat y2) 60 = u60
      have f60 := e60
      rw [icm_geq A, hA.nat] at e60
      simp only [Int.ofNat_eq_natCast] at e60
      have hy2 : y2 = w.log.length := r7.len
      have hlt60 : u60 = false → y2 < 60 := fun e => by rw [e] at e60; have := of_decide_eq_false e60; omega
      rw [hy2] at e60
      rw [e60] at hDe
      cbv
      rw [f60]
      cases u60 with
      | true =>
        have hDe : D = (⟨d.tabs, d.works, H', Wt'⟩, 4) := hDe
        have h40 : A .icm .eql 4 0 = false := by rw [icm_eql A]; rfl
        cbv
        rw [h40]
        cbv
        rw [offm A]
        refine ldb g0 rfl rfl ?_
        cbv
        refine own47K hrdb (fun h6 b1 n1 c1 b2 n2 c2 b3 n3 c3 b4 n4 c4 l6 hd6 => ?_)
        cbv
        exact fin 4 _ _ (lh5.trans l6) hd6 hDe
      | false =>
        have hlt := hlt60 rfl
        have hlog : w.log.length < 60 := by omega
        cbv
        rw [f00]
        cases u0 with
        | false =>
          have hDe : D = (⟨d.tabs, d.works, H', Wt'⟩, e1) := hDe
          cbv
          rw [offm A]
          refine ldb g0 rfl rfl ?_
          cbv
          refine own47K hrdb (fun h6 b1 n1 c1 b2 n2 c2 b3 n3 c3 b4 n4 c4 l6 hd6 => ?_)
          cbv
          exact fin e1 _ _ (lh5.trans l6) hd6 hDe
        | true =>
          have h10 : e1 = 0 := of_decide_eq_true e00
          have hDe : D = (⟨d.tabs.set kt ⟨⟨nm, cols, key, only⟩, T1⟩, d.works.set kw ⟨w.s, w.log ++ [⟨name, C1.op, C1.row⟩], w.marks⟩, H', Wt'⟩, 0) := hDe
          subst h10
          have hckt5 : (some (⟨tb, 0, none⟩ : Addr)).isSome = true ∧ 0 ≤ zt ∧ zt < (p1 : Int) := ⟨rfl, hzt.ix (by omega)⟩
          cbv
          rw [offm A]
          rw [offm A]
          refine ldb g0 rfl rfl ?_
          cbv
          refine ⟨hckt5, ?_⟩
          cbv
          have rT : shTbl.R h5 [.string nm, .slice z1 z2 z3, .int .i64 key, .bool only, .slice z4 z5 z6] ⟨⟨nm, cols, key, only⟩, T1⟩ := ⟨_, _, _, _, _, _, rfl, r3, r4⟩
          refine i3.setAt (by decide) (i := kt) (by omega) hzt.eq rfl rT (fun h6 k6 t6 o6 => ?_)
          have hctb : c ≠ tb := hct
          have g6 := k6 _ _ g0 (by simpa using hctb)
          have i56 := i5.mono (t6 _ (by decide))
          have r56 := r5.mono (t6 _ (by decide))
          cbv
          refine ld_log (i56.sl i4) hwW hzw.eq (fun y1 y2 y3 r7 r9 ag => ?_)
          have hy3 := r9 rfl
          subst hy3
          cbv
          intro nb7 h7 hnb7 e7
          have l7 : Le h6 h7 := by rw [e7]; exact Le.set hnb7
          have g7 := (congrFun e7 nb7).trans hset_self
          have qx := one_sl (s := shChg) g7 (x := ⟨name, C1.op, C1.row⟩) ⟨_, _, _, rfl, r56.mono (l7.t _)⟩
          cbv
          refine ag _ _ l7 ?_
          cbv
          refine ⟨⟨_, rfl, rfl⟩, ?_⟩
          cbv
          have hy2 := r7.len
          refine appendX_own (r7.mono (l7.t _)) qx (by omega) rfl (by decide) (by simp only at hy2; omega) (fun nb8 c8 h8 hnb8 l8 hc8 o8 => ?_)
          have l68 := l7.trans l8
          have i58 := i56.mono (l68.t _)
          have s8 := o8.sl (n := y3 + 1) (by simp only [List.length_append, List.length_singleton]; simp only at hy2; omega)
          cbv
          refine i58.setF (by decide) (i := kw) hwW hzw.eq rfl (off := 1) (by simp [shWrkG]) (x' := (⟨w.s, w.log ++ [⟨name, C1.op, C1.row⟩], w.marks⟩, false)) (fun cs hcs => ?_) (fun h9 k9 t9 o9 => ?_)
          · obtain ⟨y1, y2, y3, y4, y5, y6, rfl, q1, q2, q3⟩ := hcs
            exact ⟨_, _, _, y4, y5, y6, rfl, s8, q2, fun e => by cases e⟩
          have g8 := l68 _ _ g6
          have hcwb : c ≠ wb := hcw
          have g9 := k9 _ _ g8 (by simpa using hcwb)
          have lh9 : Le h h9 := by
            have h1 : Le h h6 := lh5.kpNew (by simpa using htb) k6
            exact (h1.trans l68).kpNew (by simpa using hwb) k9
          have hdb : RDB h9 (.agg #[.slice (some ⟨tb, 0, none⟩) p1 ct, .slice (some ⟨wb, 0, none⟩) p2 cw, .slice p3 p4 p5, .slice p6 p7 p8]) ⟨d.tabs.set kt ⟨⟨nm, cols, key, only⟩, T1⟩, d.works.set kw ⟨w.s, w.log ++ [⟨name, C1.op, C1.row⟩], w.marks⟩, H', Wt'⟩ := by
            refine ⟨_, _, _, _, _, _, _, _, _, _, _, _, _, rfl, ((o6.mono (l68.t _)).mono (t9 _ (by decide))).sl (by rw [List.length_set]; exact i2), o9.sl (by rw [List.length_set]; exact i4), ((i6.mono (t6 _ (by decide))).mono (l68.t _)).mono (t9 _ (by decide)), ((i7.mono (t6 _ (by decide))).mono (l68.t _)).mono (t9 _ (by decide)), ?_⟩
            rw [List.map_set, hWf]
          cbv
          rw [offm A]
          refine ldb g9 rfl rfl ?_
          cbv
          refine own47K hdb (fun h10 b1 n1 c1 b2 n2 c2 b3 n3 c3 b4 n4 c4 l10 hd6 => ?_)
          cbv
          exact ⟨_, 0, _, rfl, lh9.trans l10, hd6, hDe.symm⟩

theorem change58t {d : DB} {h : Heap} {v : Value} (q : RDB h v d) (sm : Small d) (s : Int) (name : ByteArray) {rb : Nat} {kv : Val} (gr : h rb = some (.cells #[.int .i64 kv.k, .int .i64 kv.n, .string kv.s] 68 (0, 0))) (hv : Calm d ⟨s, name, true⟩) :
    Ct 58 [v, .int .i64 s, .string name, .func (.func 59) #[] #[.pointer (some ⟨rb, 0, none⟩)]] h (fun v' h' => ∃ v1 e d', v' = .tuple #[v1, .int .i64 e] ∧ Le h h' ∧ RDB h' v1 d' ∧ (d', e) = changeR d ⟨s, name, true⟩ (doTake kv)) := by
  obtain ⟨A, hA⟩ := Ar.ex
  obtain ⟨b1, n1, c1, b2, n2, c2, b3, n3, c3, b4, n4, c4, rfl⟩ := q.form
  generalize hD : changeR d ⟨s, name, true⟩ (doTake kv) = D
  refine fn_of_sx A (tabOk T58.plan T58.pub) Tryz.func58 rfl (by kernel_rfl) ?_
  cbv
  refine begun43K q (fun h1 c tb wb ct cw W l1 hc htb hwb hct hcw hW ect ecw cs => ?_)
  cbv
  refine (hold53 cs ⟨s, name, true⟩ sm.holds sm.waits hct hcw hv).mono (fun v h2 hR => ?_)
  obtain ⟨k2, e, rfl, ee, cs2⟩ := hR
  have l2 : Le h h2 := l1.kpNew (by simpa using hc) k2
  have hHD : holdD d ⟨s, name, true⟩ = (⟨d.tabs, d.works, holdH d.tabs W d.holds ⟨s, name, true⟩, holdW d.tabs W d.holds d.waits ⟨s, name, true⟩⟩, e) := by rw [holdD_eq, ee, hW]
  generalize holdH d.tabs W d.holds ⟨s, name, true⟩ = H' at *
  generalize holdW d.tabs W d.holds d.waits ⟨s, name, true⟩ = Wt' at *
  have hWf : W.map (·.1) = d.works := by rw [hW, List.map_map]; simp [Function.comp_def]
  generalize eu : A .icm .neq e 0 = u
  have fu := eu
  rw [icm_neq A] at eu
  cbv
  rw [fu]
  cases u with
  | true =>
    have hDe : D = (⟨d.tabs, d.works, H', Wt'⟩, e) := by rw [← hD]; unfold changeR; rw [hHD, eu]; rfl
    refine cs2.elim (fun m1 m2 x3 m3 k3 x4 m4 k4 o g0 _ _ _ _ _ _ _ hrdb => ?_)
    rw [hWf] at hrdb
    cbv
    rw [offm A]
    refine ldb g0 rfl rfl ?_
    cbv
    refine own47K hrdb (fun h3 b1 n1 c1 b2 n2 c2 b3 n3 c3 b4 n4 c4 l3 hd6 => ?_)
    cbv
    exact ⟨_, e, _, rfl, l2.trans l3, hd6, hDe.symm⟩
  | false =>
    have he0 : e = 0 := Decidable.not_not.1 (of_decide_eq_false eu)
    subst he0
    have hon : holdOn d.tabs W s name = true := by
      cases hoff : holdOn d.tabs W s name with
      | true => rfl
      | false => unfold holdE at ee; simp only [hoff] at ee; cases ee
    have hon2 := hon
    unfold holdOn at hon2
    rw [Bool.and_eq_true] at hon2
    obtain ⟨hbw, hbt⟩ := hon2
    have hkt := bsB_lt hbt
    have hkw := bsB_lt hbw
    rw [hW, wrkC_eq] at hkw
    simp only [tabCmps, wrkC, List.length_map] at hkt hkw
    obtain ⟨t, ht⟩ := get_ex (xs := d.tabs) (i := bsI (tabCmps d.tabs name)) hkt
    obtain ⟨w, hw⟩ := get_ex (xs := d.works) (i := bsI (wrkC d.works s)) hkw
    cbv
    refine (table46 cs2 name).mono (fun v h3 hR => ?_)
    obtain ⟨l3, zt, tt, rfl, hbt2⟩ := hR
    obtain ⟨hzt, -⟩ := hbt2.at_
    have hzt : IsN zt (bsI (tabCmps d.tabs name)) := hzt
    cbv
    refine (work50 (cs2.mono l3) s).mono (fun v h4 hR => ?_)
    obtain ⟨l4, zw, tw, rfl, hbw2⟩ := hR
    obtain ⟨hzw, -⟩ := hbw2.at_
    have hzw : IsN zw (bsI (wrkC d.works s)) := by
      have h1 : IsN zw (bsI (wrkCmps W s)) := hzw
      rw [hW, wrkC_eq] at h1; exact h1
    have hktl := (List.getElem?_eq_some_iff.1 ht).1
    have hkwl := (List.getElem?_eq_some_iff.1 hw).1
    generalize hkte : bsI (tabCmps d.tabs name) = kt at *
    generalize hkwe : bsI (wrkC d.works s) = kw at *
    have l34 := l3.trans l4
    have lh4 := l2.trans l34
    have cs4 := cs2.mono l34
    refine cs4.elim (fun m1 m2 x3 m3 k3 x4 m4 k4 o f0 f1 f2 f3 f4 f5 f6 f7 _ => ?_)
    have hm2 : m2 = d.works.length := by rw [f4, hW, List.length_map]
    have hwW : W[kw]? = some (w, true) := by rw [hW, List.getElem?_map, hw]; rfl
    have hckw : (some (⟨wb, 0, none⟩ : Addr)).isSome = true ∧ 0 ≤ zw ∧ zw < (m2 : Int) := ⟨rfl, hzw.ix (by omega)⟩
    have hckt : (some (⟨tb, 0, none⟩ : Addr)).isSome = true ∧ 0 ≤ zt ∧ zt < (m1 : Int) := ⟨rfl, hzt.ix (by omega)⟩
    cbv
    rw [offm A]
    rw [offm A]
    refine ldb f0 rfl rfl ?_
    cbv
    refine ⟨hckw, ?_⟩
    cbv
    rw [offm A]
    rw [offm A]
    refine ldb f0 rfl rfl ?_
    cbv
    refine ⟨hckt, ?_⟩
    cbv
    obtain ⟨⟨nm, cols, key, only⟩, rows⟩ := t
    refine ld_tbl (f3.sl f2) ht hzt.eq (fun y1 y2 y3 y4 y5 y6 r1 r2 => ?_)
    have hrl : y5 ≤ 2 ^ 37 := by have := sm.rows _ (List.mem_of_getElem? ht); have := r2.len; simp only at *; omega
    cbv
    refine take59e (nm := nm) (key := key) (only := only) r1 r2 (kv := kv) (lh4 _ _ gr) hrl (fun h5 z1 z2 z3 z4 z5 z6 z7 z8 z9 e1 T1 C1 l5 r3 r4 r5 r6 => ?_)
    have lh5 := lh4.trans l5
    have cs5 := cs4.mono l5
    have hDe : D = (if decide (e1 ≠ 19) && decide ((w.log.length : Int) ≥ 60) then (⟨d.tabs, d.works, H', Wt'⟩, 4)
        else if decide (e1 = 0) = true then (⟨d.tabs.set kt ⟨⟨nm, cols, key, only⟩, T1⟩, d.works.set kw ⟨w.s, w.log ++ [⟨name, C1.op, C1.row⟩], w.marks⟩, H', Wt'⟩, 0) else (⟨d.tabs, d.works, H', Wt'⟩, e1)) := by
      rw [← hD]
      unfold changeR
      rw [hHD]
      simp only
      rw [hkte, hkwe, ht, hw]
      simp only
      rw [← r6]
      rfl
    have fin : ∀ (e : Int) (hh : Heap) (v : Value), Le h hh → RDB hh v ⟨d.tabs, d.works, H', Wt'⟩ → D = (⟨d.tabs, d.works, H', Wt'⟩, e) → ∃ v1 e1 d', Value.tuple #[v, .int .i64 e] = .tuple #[v1, .int .i64 e1] ∧ Le h hh ∧ RDB hh v1 d' ∧ (d', e1) = D :=
      fun e hh v l r hE => ⟨v, e, _, rfl, l, r, hE.symm⟩
    refine cs5.elim (fun p1 p2 p3 p4 p5 p6 p7 p8 p9 g0 i1 i2 i3 i4 i5 i6 i7 hrdb => ?_)
    rw [hWf] at hrdb
    generalize e19 : A .icm .neq e1 19 = u19
    have f19 := e19
    rw [icm_neq A] at e19
    generalize e00 : A .icm .eql e1 0 = u0
    have f00 := e00
    rw [icm_eql A] at e00
    rw [e19, e00] at hDe
    cbv
    rw [f19]
    cases u19 with
    | false =>
      have h19 : e1 = 19 := Decidable.not_not.1 (of_decide_eq_false e19)
      have hu0 : u0 = false := by rw [← e00, h19]; rfl
      subst hu0
      have hDe : D = (⟨d.tabs, d.works, H', Wt'⟩, e1) := hDe
      cbv
      rw [f00]
      cbv
      rw [offm A]
      refine ldb g0 rfl rfl ?_
      cbv
      refine own47K hrdb (fun h6 b1 n1 c1 b2 n2 c2 b3 n3 c3 b4 n4 c4 l6 hd6 => ?_)
      cbv
      exact fin e1 _ _ (lh5.trans l6) hd6 hDe
    | true =>
      have hk3 := hzw.eq
      cbv
      refine ld_log (i5.sl i4) hwW hzw.eq (fun y1 y2 y3 r7 r9 _ => ?_)
      generalize e60 : A .icm .geq (A .nat y2) 60 = u60
      have f60 := e60
      rw [icm_geq A, hA.nat] at e60
      simp only [Int.ofNat_eq_natCast] at e60
      have hy2 : y2 = w.log.length := r7.len
      have hlt60 : u60 = false → y2 < 60 := fun e => by rw [e] at e60; have := of_decide_eq_false e60; omega
      rw [hy2] at e60
      rw [e60] at hDe
      cbv
      rw [f60]
      cases u60 with
      | true =>
        have hDe : D = (⟨d.tabs, d.works, H', Wt'⟩, 4) := hDe
        have h40 : A .icm .eql 4 0 = false := by rw [icm_eql A]; rfl
        cbv
        rw [h40]
        cbv
        rw [offm A]
        refine ldb g0 rfl rfl ?_
        cbv
        refine own47K hrdb (fun h6 b1 n1 c1 b2 n2 c2 b3 n3 c3 b4 n4 c4 l6 hd6 => ?_)
        cbv
        exact fin 4 _ _ (lh5.trans l6) hd6 hDe
      | false =>
        have hlt := hlt60 rfl
        have hlog : w.log.length < 60 := by omega
        cbv
        rw [f00]
        cases u0 with
        | false =>
          have hDe : D = (⟨d.tabs, d.works, H', Wt'⟩, e1) := hDe
          cbv
          rw [offm A]
          refine ldb g0 rfl rfl ?_
          cbv
          refine own47K hrdb (fun h6 b1 n1 c1 b2 n2 c2 b3 n3 c3 b4 n4 c4 l6 hd6 => ?_)
          cbv
          exact fin e1 _ _ (lh5.trans l6) hd6 hDe
        | true =>
          have h10 : e1 = 0 := of_decide_eq_true e00
          have hDe : D = (⟨d.tabs.set kt ⟨⟨nm, cols, key, only⟩, T1⟩, d.works.set kw ⟨w.s, w.log ++ [⟨name, C1.op, C1.row⟩], w.marks⟩, H', Wt'⟩, 0) := hDe
          subst h10
          have hckt5 : (some (⟨tb, 0, none⟩ : Addr)).isSome = true ∧ 0 ≤ zt ∧ zt < (p1 : Int) := ⟨rfl, hzt.ix (by omega)⟩
          cbv
          rw [offm A]
          rw [offm A]
          refine ldb g0 rfl rfl ?_
          cbv
          refine ⟨hckt5, ?_⟩
          cbv
          have rT : shTbl.R h5 [.string nm, .slice z1 z2 z3, .int .i64 key, .bool only, .slice z4 z5 z6] ⟨⟨nm, cols, key, only⟩, T1⟩ := ⟨_, _, _, _, _, _, rfl, r3, r4⟩
          refine i3.setAt (by decide) (i := kt) (by omega) hzt.eq rfl rT (fun h6 k6 t6 o6 => ?_)
          have hctb : c ≠ tb := hct
          have g6 := k6 _ _ g0 (by simpa using hctb)
          have i56 := i5.mono (t6 _ (by decide))
          have r56 := r5.mono (t6 _ (by decide))
          cbv
          refine ld_log (i56.sl i4) hwW hzw.eq (fun y1 y2 y3 r7 r9 ag => ?_)
          have hy3 := r9 rfl
          subst hy3
          cbv
          intro nb7 h7 hnb7 e7
          have l7 : Le h6 h7 := by rw [e7]; exact Le.set hnb7
          have g7 := (congrFun e7 nb7).trans hset_self
          have qx := one_sl (s := shChg) g7 (x := ⟨name, C1.op, C1.row⟩) ⟨_, _, _, rfl, r56.mono (l7.t _)⟩
          cbv
          refine ag _ _ l7 ?_
          cbv
          refine ⟨⟨_, rfl, rfl⟩, ?_⟩
          cbv
          have hy2 := r7.len
          refine appendX_own (r7.mono (l7.t _)) qx (by omega) rfl (by decide) (by simp only at hy2; omega) (fun nb8 c8 h8 hnb8 l8 hc8 o8 => ?_)
          have l68 := l7.trans l8
          have i58 := i56.mono (l68.t _)
          have s8 := o8.sl (n := y3 + 1) (by simp only [List.length_append, List.length_singleton]; simp only at hy2; omega)
          cbv
          refine i58.setF (by decide) (i := kw) hwW hzw.eq rfl (off := 1) (by simp [shWrkG]) (x' := (⟨w.s, w.log ++ [⟨name, C1.op, C1.row⟩], w.marks⟩, false)) (fun cs hcs => ?_) (fun h9 k9 t9 o9 => ?_)
          · obtain ⟨y1, y2, y3, y4, y5, y6, rfl, q1, q2, q3⟩ := hcs
            exact ⟨_, _, _, y4, y5, y6, rfl, s8, q2, fun e => by cases e⟩
          have g8 := l68 _ _ g6
          have hcwb : c ≠ wb := hcw
          have g9 := k9 _ _ g8 (by simpa using hcwb)
          have lh9 : Le h h9 := by
            have h1 : Le h h6 := lh5.kpNew (by simpa using htb) k6
            exact (h1.trans l68).kpNew (by simpa using hwb) k9
          have hdb : RDB h9 (.agg #[.slice (some ⟨tb, 0, none⟩) p1 ct, .slice (some ⟨wb, 0, none⟩) p2 cw, .slice p3 p4 p5, .slice p6 p7 p8]) ⟨d.tabs.set kt ⟨⟨nm, cols, key, only⟩, T1⟩, d.works.set kw ⟨w.s, w.log ++ [⟨name, C1.op, C1.row⟩], w.marks⟩, H', Wt'⟩ := by
            refine ⟨_, _, _, _, _, _, _, _, _, _, _, _, _, rfl, ((o6.mono (l68.t _)).mono (t9 _ (by decide))).sl (by rw [List.length_set]; exact i2), o9.sl (by rw [List.length_set]; exact i4), ((i6.mono (t6 _ (by decide))).mono (l68.t _)).mono (t9 _ (by decide)), ((i7.mono (t6 _ (by decide))).mono (l68.t _)).mono (t9 _ (by decide)), ?_⟩
            rw [List.map_set, hWf]
          cbv
          rw [offm A]
          refine ldb g9 rfl rfl ?_
          cbv
          refine own47K hdb (fun h10 b1 n1 c1 b2 n2 c2 b3 n3 c3 b4 n4 c4 l10 hd6 => ?_)
          cbv
          exact ⟨_, 0, _, rfl, lh9.trans l10, hd6, hDe.symm⟩
end Go.S

set_option maxRecDepth 100000
set_option maxHeartbeats 8000000
set_option linter.unusedVariables false
set_option linter.unusedSimpArgs false
namespace Go.S
open Go.Sx Go.Proofs

def putD (d : DB) (s : Int) (name : ByteArray) (r : Row) : DB × Int := changeR d ⟨s, name, true⟩ (doPut r)
def takeD (d : DB) (s : Int) (name : ByteArray) (k : Val) : DB × Int := changeR d ⟨s, name, true⟩ (doTake k)
def createD (d : DB) (s : Sch) : DB × Int := createR d s (bsI (tabCmps d.tabs s.name)) (bsB (tabCmps d.tabs s.name))
def beginD (d : DB) (s : Int) : DB × Int := beginR d s (bsI (wrkC d.works s)) (bsB (wrkC d.works s))

/-- What a state's value goes on with. -/
abbrev DbK (h : Heap) (d' : DB) (e : Int) (k : Value → Heap → Prop) : Prop :=
  ∀ h' b1 n1 c1 b2 n2 c2 b3 n3 c3 b4 n4 c4, Le h h' → RDB h' (.agg #[.slice b1 n1 c1, .slice b2 n2 c2, .slice b3 n3 c3, .slice b4 n4 c4]) d' → k (.tuple #[.agg #[.slice b1 n1 c1, .slice b2 n2 c2, .slice b3 n3 c3, .slice b4 n4 c4], .int .i64 e]) h'

theorem isn_inj {z : Int} {i j : Nat} (a : IsN z i) (b : IsN z j) : i = j := by have := a.eq; have := b.eq; omega

theorem create17K {d : DB} {h : Heap} {v : Value} (q : RDB h v d) {nm : ByteArray} {cols : List Col} {key : Int} {only : Bool} {sb : Option Addr} {sn sc : Nat} (qs : Sl 104 shCol h (.slice sb sn sc) cols) (sm : Small d) {D : DB × Int} (hD : createD d ⟨nm, cols, key, only⟩ = D)
    {k : Value → Heap → Prop} (hk : DbK h D.1 D.2 k) : Ct 17 [v, .agg #[.string nm, .slice sb sn sc, .int .i64 key, .bool only]] h k :=
  (create17 q qs sm.tabs sm.works).mono (fun v h' hR => by
    obtain ⟨v1, e, z, i, is, hv, l, hd, he, hz, hb⟩ := hR
    obtain ⟨h1, h2⟩ := hb.at_
    have hi := isn_inj hz h1
    have hR2 : createR d ⟨nm, cols, key, only⟩ i is = D := by rw [← hD, hi, h2]; rfl
    rw [hR2] at hd he
    obtain ⟨b1, n1, c1, b2, n2, c2, b3, n3, c3, b4, n4, c4, hf⟩ := hd.form
    rw [hv, hf, he]
    exact hk h' _ _ _ _ _ _ _ _ _ _ _ _ l (by rw [← hf]; exact hd))

theorem begin18K {d : DB} {h : Heap} {v : Value} (q : RDB h v d) (s : Int) (sm : Small d) {D : DB × Int} (hD : beginD d s = D) {k : Value → Heap → Prop} (hk : DbK h D.1 D.2 k) : Ct 18 [v, .int .i64 s] h k :=
  (begin18 q s sm.works).mono (fun v h' hR => by
    obtain ⟨v1, e, z, i, is, hv, l, hd, he, hz, hb⟩ := hR
    obtain ⟨h1, h2⟩ := hb.at_
    have hi := isn_inj hz h1
    have hR2 : beginR d s i is = D := by rw [← hD, hi, h2]; rfl
    rw [hR2] at hd he
    obtain ⟨b1, n1, c1, b2, n2, c2, b3, n3, c3, b4, n4, c4, hf⟩ := hd.form
    rw [hv, hf, he]
    exact hk h' _ _ _ _ _ _ _ _ _ _ _ _ l (by rw [← hf]; exact hd))

theorem put23K {d : DB} {h : Heap} {v : Value} (q : RDB h v d) (sm : Small d) (s : Int) (name : ByteArray) {r : Row} {vb : Option Addr} {vn vc : Nat} (qr : Sl 68 shVal h (.slice vb vn vc) r) (hv : Calm d ⟨s, name, true⟩) {D : DB × Int} (hD : putD d s name r = D) {k : Value → Heap → Prop}
    (hk : DbK h D.1 D.2 k) : Ct 23 [v, .int .i64 s, .string name, .slice vb vn vc] h k := by
  obtain ⟨A, hA⟩ := Ar.ex
  obtain ⟨b1, n1, c1, b2, n2, c2, b3, n3, c3, b4, n4, c4, rfl⟩ := q.form
  refine fn_of_sx A (tabOk T23.plan T23.pub) Tryz.func23 rfl (by kernel_rfl) ?_
  cbv
  intro rb h1 hrb e1
  have l1 : Le h h1 := by rw [e1]; exact Le.set hrb
  have g1 := (congrFun e1 rb).trans hset_self
  cbv
  refine (change58p (q.mono l1) sm s name g1 (qr.mono (l1.t _)) hv).mono (fun v h2 hR => ?_)
  obtain ⟨v1, e, d', hv, l2, hd, hE⟩ := hR
  have hE2 : (d', e) = D := hE.trans hD
  subst hE2
  obtain ⟨b1, n1, c1, b2, n2, c2, b3, n3, c3, b4, n4, c4, hf⟩ := hd.form
  rw [hv, hf]
  have hfin := hk h2 b1 n1 c1 b2 n2 c2 b3 n3 c3 b4 n4 c4 (l1.trans l2) (by rw [← hf]; exact hd)
  cbv
  exact hfin

theorem take24K {d : DB} {h : Heap} {v : Value} (q : RDB h v d) (sm : Small d) (s : Int) (name : ByteArray) (kv : Val) (hv : Calm d ⟨s, name, true⟩) {D : DB × Int} (hD : takeD d s name kv = D) {k : Value → Heap → Prop}
    (hk : DbK h D.1 D.2 k) : Ct 24 [v, .int .i64 s, .string name, .agg #[.int .i64 kv.k, .int .i64 kv.n, .string kv.s]] h k := by
  obtain ⟨A, hA⟩ := Ar.ex
  obtain ⟨b1, n1, c1, b2, n2, c2, b3, n3, c3, b4, n4, c4, rfl⟩ := q.form
  refine fn_of_sx A (tabOk T24.plan T24.pub) Tryz.func24 rfl (by kernel_rfl) ?_
  cbv
  intro rb h1 hrb e1
  have l1 : Le h h1 := by rw [e1]; exact Le.set hrb
  have g1 := (congrFun e1 rb).trans hset_self
  cbv
  refine (change58t (q.mono l1) sm s name (kv := kv) g1 hv).mono (fun v h2 hR => ?_)
  obtain ⟨v1, e, d', hv, l2, hd, hE⟩ := hR
  have hE2 : (d', e) = D := hE.trans hD
  subst hE2
  obtain ⟨b1, n1, c1, b2, n2, c2, b3, n3, c3, b4, n4, c4, hf⟩ := hd.form
  rw [hv, hf]
  have hfin := hk h2 b1 n1 c1 b2 n2 c2 b3 n3 c3 b4 n4 c4 (l1.trans l2) (by rw [← hf]; exact hd)
  cbv
  exact hfin
end Go.S

set_option maxRecDepth 100000
set_option maxHeartbeats 8000000
set_option linter.unusedVariables false
set_option linter.unusedSimpArgs false
namespace Go.S
open Go.Sx Go.Proofs

def db0 : DB := ⟨[], [], [], []⟩
def nX : ByteArray := ⟨#[120]⟩
def nA : ByteArray := ⟨#[97]⟩
def kS : Sch := ⟨nX, [⟨nA, 2, false⟩], 0, false⟩
def kd1 : DB := (createD db0 kS).1
def kd2 : DB := (beginD kd1 1).1
def kd3 : DB := (beginD kd2 2).1
def kd4 : DB := (putD kd3 1 nX [⟨2, 5, noName⟩]).1
def kd5 : DB := (putD kd4 2 nX [⟨2, 6, noName⟩]).1

def smallB (d : DB) : Bool := decide (d.tabs.length ≤ 1000) && decide (d.works.length ≤ 1000) && d.tabs.all (fun t => decide (t.rows.length ≤ 1000)) && decide (d.holds.length ≤ 1000) && decide (d.waits.length ≤ 1000)
theorem smallB_ok {d : DB} (h : smallB d = true) : Small d := by
  unfold smallB at h
  simp only [Bool.and_eq_true, decide_eq_true_eq, List.all_eq_true] at h
  obtain ⟨⟨⟨⟨h1, h2⟩, h3⟩, h4⟩, h5⟩ := h
  exact ⟨by omega, by omega, fun t ht => by have := h3 t ht; omega, by omega, by omega⟩
def calmB (d : DB) (hd : Hld) : Bool := askFree d.holds hd || !(victim (edges (askH d.holds hd) (askW d.holds d.waits hd)) hd.s).2
theorem calmB_ok {d : DB} {hd : Hld} (h : calmB d hd = true) : Calm d hd := fun hf => by
  unfold calmB at h
  rw [hf] at h
  simpa using h

theorem k1 : createD db0 kS = (kd1, 0) := by kernel_rfl
theorem k2 : beginD kd1 1 = (kd2, 0) := by kernel_rfl
theorem k3 : beginD kd2 2 = (kd3, 0) := by kernel_rfl
theorem k4 : putD kd3 1 nX [⟨2, 5, noName⟩] = (kd4, 0) := by kernel_rfl
theorem k5 : putD kd4 2 nX [⟨2, 6, noName⟩] = (kd5, 16) := by kernel_rfl
theorem k5w : kd5.works.length = 2 := by kernel_rfl
theorem ks0 : Small db0 := smallB_ok (by kernel_rfl)
theorem ks1 : Small kd1 := smallB_ok (by kernel_rfl)
theorem ks2 : Small kd2 := smallB_ok (by kernel_rfl)
theorem ks3 : Small kd3 := smallB_ok (by kernel_rfl)
theorem ks4 : Small kd4 := smallB_ok (by kernel_rfl)
theorem kc3 : Calm kd3 ⟨1, nX, true⟩ := calmB_ok (by kernel_rfl)
theorem kc4 : Calm kd4 ⟨2, nX, true⟩ := calmB_ok (by kernel_rfl)

theorem rdb0 (h : Heap) : RDB h (.agg #[.slice none 0 0, .slice none 0 0, .slice none 0 0, .slice none 0 0]) db0 :=
  ⟨_, _, _, _, _, _, _, _, _, _, _, _, [], rfl, Sl.nil, Sl.nil, Sl.nil, Sl.nil, rfl⟩

theorem known14 (h : Heap) : Ct 14 [] h (fun v h' => Le h h' ∧ v = .bool true) := by
  obtain ⟨A, hA⟩ := Ar.ex
  have e00 : A .icm .eql 0 0 = true := by rw [icm_eql A]; rfl
  have e16 : A .icm .eql 16 16 = true := by rw [icm_eql A]; rfl
  have e2 : A .icm .eql (A .nat 2) 2 = true := by rw [icm_eql A, hA.nat]; rfl
  refine fn_of_sx A (tabOk T14.plan T14.pub) Tryz.func14 rfl (by kernel_rfl) ?_
  cbv
  intro nb h1 hnb e1
  have l1 : Le h h1 := by rw [e1]; exact Le.set hnb
  have g1 := (congrFun e1 nb).trans hset_self
  cbv
  refine create17K (rdb0 h1) (nm := nX) (key := 0) (only := false) (one_sl (s := shCol) g1 (x := ⟨nA, 2, false⟩) rfl) ks0 k1 (fun h2 b1 n1 c1 b2 n2 c2 b3 n3 c3 b4 n4 c4 l2 hd => ?_)
  cbv
  refine begin18K hd 1 ks1 k2 (fun h3 b1 n1 c1 b2 n2 c2 b3 n3 c3 b4 n4 c4 l3 hd => ?_)
  cbv
  refine begin18K hd 2 ks2 k3 (fun h4 b1 n1 c1 b2 n2 c2 b3 n3 c3 b4 n4 c4 l4 hd => ?_)
  cbv
  intro nb5 h5 hnb5 e5
  have l5 : Le h4 h5 := by rw [e5]; exact Le.set hnb5
  have g5 := (congrFun e5 nb5).trans hset_self
  cbv
  refine put23K (hd.mono l5) ks3 1 nX (one_sl (s := shVal) g5 (x := ⟨2, 5, noName⟩) rfl) kc3 k4 (fun h6 b1 n1 c1 b2 n2 c2 b3 n3 c3 b4 n4 c4 l6 hd => ?_)
  cbv
  intro nb7 h7 hnb7 e7
  have l7 : Le h6 h7 := by rw [e7]; exact Le.set hnb7
  have g7 := (congrFun e7 nb7).trans hset_self
  cbv
  refine put23K (hd.mono l7) ks4 2 nX (one_sl (s := shVal) g7 (x := ⟨2, 6, noName⟩) rfl) kc4 k5 (fun h8 b1 n1 c1 b2 n2 c2 b3 n3 c3 b4 n4 c4 l8 hd => ?_)
  have hw : n2 = 2 := by
    obtain ⟨_, _, _, _, _, _, _, _, _, _, _, _, ws, he, _, q2, _, _, hwm⟩ := hd.out
    cases he
    have := q2.len
    rw [this, ← k5w, ← hwm, List.length_map]
  subst hw
  cbv
  rw [e00]
  cbv
  rw [e00]
  cbv
  rw [e00]
  cbv
  rw [e00]
  cbv
  rw [e16]
  cbv
  rw [e2]
  exact ⟨((((((l1.trans l2).trans l3).trans l4).trans l5).trans l6).trans l7).trans l8, rfl⟩
end Go.S

set_option maxRecDepth 100000
set_option maxHeartbeats 8000000
set_option linter.unusedVariables false
set_option linter.unusedSimpArgs false
namespace Go.S
open Go.Sx Go.Proofs

theorem within15 (a : Int) (n : Nat) (hn : 0 < n) (hn2 : n ≤ 2 ^ 40) (h : Heap) {k : Value → Heap → Prop} (hk : ∀ z i, IsN z i → i = (a % (n : Int)).toNat → i < n → k (.int .i64 z) h) : Ct 15 [.int .i64 a, .int .i64 (n : Int)] h k := by
  obtain ⟨A, hA⟩ := Ar.ex
  obtain ⟨m, hm⟩ : ∃ m : Int, m = (n : Int) := ⟨_, rfl⟩
  rw [← hm]
  have hm0 : m ≠ 0 := by omega
  have hrem : A .ari .rem .i64 a m = a.tmod m := by rw [hA.ari]; rfl
  have hb1 : a.tmod m < m := by have := Int.tmod_lt_of_pos a (show 0 < m by omega); omega
  have hb2 : -m < a.tmod m := by
    have := Int.lt_tmod_of_pos a (show 0 < m by omega); omega
  have hemod : a % m = if a.tmod m < 0 then a.tmod m + m else a.tmod m := by
    rw [Int.tmod_eq_emod]
    have h1 := Int.emod_nonneg a hm0
    have h2 := Int.emod_lt_of_pos a (show 0 < m by omega)
    by_cases hc : 0 ≤ a ∨ m ∣ a
    · rw [if_pos hc]
      rw [if_neg (by omega)]; omega
    · rw [if_neg hc]
      have : (m.natAbs : Int) = m := by omega
      rw [this, if_pos (by omega)]; omega
  generalize ht : a.tmod m = t at *
  generalize eu : A .icm .lss t 0 = u
  have fu := eu
  rw [icm_lss A] at eu
  have key : ∀ z : Int, z = a % m → k (.int .i64 z) h := fun z hz => by
    have h1 := Int.emod_nonneg a hm0
    have h2 := Int.emod_lt_of_pos a (show 0 < m by omega)
    refine hk z (a % (n : Int)).toNat ⟨?_⟩ rfl ?_
    · rw [← hm]; omega
    · rw [← hm]; omega
  have hadd : t < 0 → A .ari .add .i64 t m = t + m := fun h => by
    rw [hA.ari]; simp only [ari]
    rw [IntWalk.i64_in _ (by omega)]
  refine fn_of_sx A (tabOk T15.plan T15.pub) Tryz.func15 rfl (by kernel_rfl) ?_
  cbv
  refine ⟨hm0, ?_⟩
  cbv
  rw [hrem]
  rw [fu]
  cases u with
  | true =>
    have hneg := of_decide_eq_true eu
    have hk2 := key (t + m) (by rw [hemod, if_pos hneg])
    cbv
    rw [hadd hneg]
    exact hk2
  | false =>
    have hneg := of_decide_eq_false eu
    have hk2 := key t (by rw [hemod, if_neg hneg])
    cbv
    exact hk2

def shNames : List ByteArray := [⟨#[116, 97]⟩, ⟨#[116, 98]⟩, ⟨#[116, 99]⟩]
def shColsE : List Col := [⟨nA, 2, false⟩, ⟨⟨#[98]⟩, 3, true⟩]
def shapeS (t : Nat) : Sch := ⟨(shNames[t]?).getD noName, shColsE, 0, decide (t = 2)⟩
theorem shape16 {z : Int} {t : Nat} (hz : IsN z t) (ht : t < 3) (h : Heap) {k : Value → Heap → Prop}
    (hk : ∀ h' b n c nm o, Le h h' → nm = (shapeS t).name → o = (shapeS t).only → Sl 104 shCol h' (.slice b n c) shColsE → k (.agg #[.string nm, .slice b n c, .int .i64 0, .bool o]) h') : Ct 16 [.int .i64 z] h k := by
  obtain ⟨A, hA⟩ := Ar.ex
  obtain ⟨x, hx⟩ := get_ex (xs := shNames) (i := t) ht
  have hxn : x = (shapeS t).name := by unfold shapeS; rw [hx]; rfl
  have he : A .icm .eql z 2 = decide (t = 2) := by
    rw [icm_eql A, decide_eq_decide]; have := hz.eq; omega
  have hck : (0 : Int) ≤ z ∧ z < ((3 : Nat) : Int) := hz.ix ht
  refine fn_of_sx A (tabOk T16.plan T16.pub) Tryz.func16 rfl (by kernel_rfl) ?_
  cbv
  intro n1 h1 hn1 e1
  have l1 : Le h h1 := by rw [e1]; exact Le.set hn1
  have g1 := (congrFun e1 n1).trans hset_self
  have s1 : Sl 104 shCol h1 (.slice (some ⟨n1, 0, none⟩) 2 2) shColsE := by
    refine Sl.fresh (xs := shColsE) g1 ⟨by simp [shColsE, shCol], fun j y hj => ?_⟩ (by simp [shColsE]) (by simp [shColsE])
    match j, hj with
    | 0, hj => simp [shColsE] at hj; subst hj; rfl
    | 1, hj => simp [shColsE] at hj; subst hj; rfl
    | j + 2, hj => simp [shColsE] at hj
  cbv
  intro n2 h2 hn2 e2
  have l2 : Le h1 h2 := by rw [e2]; exact Le.set hn2
  have g2 := (congrFun e2 n2).trans hset_self
  have s2 : Sl 9 shStr h2 (.slice (some ⟨n2, 0, none⟩) 3 3) shNames := three_sl (s := shStr) rfl g2 (x := ⟨#[116, 97]⟩) (y := ⟨#[116, 98]⟩) (w := ⟨#[116, 99]⟩) rfl rfl rfl
  cbv
  refine ⟨⟨rfl, hck⟩, ?_⟩
  cbv
  refine s2.load hx hz.eq (fun cs hcs => ?_)
  have hcs : cs = [.string x] := hcs
  subst hcs
  have hfin := hk h2 _ _ _ x (decide (t = 2)) (l1.trans l2) hxn rfl (s1.mono (l2.t _))
  cbv
  rw [he]
  exact hfin
end Go.S

