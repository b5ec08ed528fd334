import Derived.Test.YtnfijhlegoagjaaGreatEB
import Derived.Test.YtnfijhlegoagjaaGreatRd
set_option linter.unusedVariables false
set_option linter.unusedSimpArgs false
set_option linter.unusedSectionVars false
set_option maxRecDepth 100000
set_option maxHeartbeats 8000000
set_option linter.unusedVariables false
set_option linter.unusedSimpArgs false
namespace Go.S
open Go.Sx Go.Proofs

def wrkC (W : List Wrk) (s : Int) : List Int := W.map fun x => IntKind.i64.wrap (x.s - s)
theorem wrkC_eq (W : List Wrk) (s : Int) : wrkCmps (W.map fun w => (w, true)) s = wrkC W s := by simp [wrkCmps, wrkC]
def onD (d : DB) (hd : Hld) : Bool := bsB (wrkC d.works hd.s) && bsB (tabCmps d.tabs hd.table)
def holdD (d : DB) (hd : Hld) : DB × Int :=
  if onD d hd = true then (⟨d.tabs, d.works, askH d.holds hd, askW d.holds d.waits hd⟩, if askFree d.holds hd = true then 0 else 16) else (d, 2)
theorem holdD_eq (d : DB) (hd : Hld) : holdD d hd = (⟨d.tabs, d.works, holdH d.tabs (d.works.map fun w => (w, true)) d.holds hd, holdW d.tabs (d.works.map fun w => (w, true)) d.holds d.waits hd⟩, holdE d.tabs (d.works.map fun w => (w, true)) d.holds hd) := by
  unfold holdD holdH holdW holdE onD holdOn
  rw [wrkC_eq]
  split <;> rfl
/-- Nobody waits in a ring. -/
def Calm (d : DB) (hd : Hld) : Prop := askFree d.holds hd = false → (victim (edges (askH d.holds hd) (askW d.holds d.waits hd)) hd.s).2 = false
def changeR (d : DB) (hd : Hld) (act : Tbl → Tbl × Chg × Int) : DB × Int :=
  if decide ((holdD d hd).2 ≠ 0) = true then holdD d hd
  else match d.tabs[bsI (tabCmps d.tabs hd.table)]?, d.works[bsI (wrkC d.works hd.s)]? with
    | some t, some w =>
      if decide ((act t).2.2 ≠ 19) && decide ((w.log.length : Int) ≥ 60) then ((holdD d hd).1, 4)
      else if decide ((act t).2.2 = 0) = true then
        (⟨d.tabs.set (bsI (tabCmps d.tabs hd.table)) (act t).1, d.works.set (bsI (wrkC d.works hd.s)) ⟨w.s, w.log ++ [⟨hd.table, (act t).2.1.op, (act t).2.1.row⟩], w.marks⟩, (holdD d hd).1.holds, (holdD d hd).1.waits⟩, 0)
      else ((holdD d hd).1, (act t).2.2)
    | _, _ => holdD d hd
structure Small (d : DB) : Prop where
  tabs : d.tabs.length ≤ 2 ^ 37
  works : d.works.length ≤ 2 ^ 37
  rows : ∀ t ∈ d.tabs, t.rows.length ≤ 2 ^ 37
  holds : d.holds.length < 2 ^ 18
  waits : d.waits.length < 2 ^ 18

theorem change58p {d : DB} {h : Heap} {v : Value} (q : RDB h v d) (sm : Small d) (s : Int) (name : ByteArray) {rb : Nat} {r : Row} {vb : Option Addr} {vn vc : Nat} (gr : h rb = some (.cells #[.slice vb vn vc] 63 (0, 0))) (qr : Sl 68 shVal h (.slice vb vn vc) r) (hv : Calm d ⟨s, name, true⟩) :
    Ct 58 [v, .int .i64 s, .string name, .func (.func 55) #[] #[.pointer (some ⟨rb, 0, none⟩)]] h (fun v' h' => ∃ v1 e d', v' = .tuple #[v1, .int .i64 e] ∧ Le h h' ∧ RDB h' v1 d' ∧ (d', e) = changeR d ⟨s, name, true⟩ (doPut r)) := by
  obtain ⟨A, hA⟩ := Ar.ex
  obtain ⟨b1, n1, c1, b2, n2, c2, b3, n3, c3, b4, n4, c4, rfl⟩ := q.form
  generalize hD : changeR d ⟨s, name, true⟩ (doPut r) = D
  refine fn_of_sx A (tabOk T58.plan T58.pub) Tryz.func58 rfl (by kernel_rfl) ?_
  cbv
  refine begun43K q (fun h1 c tb wb ct cw W l1 hc htb hwb hct hcw hW ect ecw cs => ?_)
  cbv
  refine (hold53 cs ⟨s, name, true⟩ sm.holds sm.waits hct hcw hv).mono (fun v h2 hR => ?_)
  obtain ⟨k2, e, rfl, ee, cs2⟩ := hR
  have l2 : Le h h2 := l1.kpNew (by simpa using hc) k2
  have hHD : holdD d ⟨s, name, true⟩ = (⟨d.tabs, d.works, holdH d.tabs W d.holds ⟨s, name, true⟩, holdW d.tabs W d.holds d.waits ⟨s, name, true⟩⟩, e) := by rw [holdD_eq, ee, hW]
  generalize holdH d.tabs W d.holds ⟨s, name, true⟩ = H' at *
  generalize holdW d.tabs W d.holds d.waits ⟨s, name, true⟩ = Wt' at *
  have hWf : W.map (·.1) = d.works := by rw [hW, List.map_map]; simp [Function.comp_def]
  generalize eu : A .icm .neq e 0 = u
  have fu := eu
  rw [icm_neq A] at eu
  cbv
  rw [fu]
  cases u with
  | true =>
    have hDe : D = (⟨d.tabs, d.works, H', Wt'⟩, e) := by rw [← hD]; unfold changeR; rw [hHD, eu]; rfl
    refine cs2.elim (fun m1 m2 x3 m3 k3 x4 m4 k4 o g0 _ _ _ _ _ _ _ hrdb => ?_)
    rw [hWf] at hrdb
    cbv
    rw [offm A]
    refine ldb g0 rfl rfl ?_
    cbv
    refine own47K hrdb (fun h3 b1 n1 c1 b2 n2 c2 b3 n3 c3 b4 n4 c4 l3 hd6 => ?_)
    cbv
    exact ⟨_, e, _, rfl, l2.trans l3, hd6, hDe.symm⟩
  | false =>
    have he0 : e = 0 := Decidable.not_not.1 (of_decide_eq_false eu)
    subst he0
    have hon : holdOn d.tabs W s name = true := by
      cases hoff : holdOn d.tabs W s name with
      | true => rfl
      | false => unfold holdE at ee; simp only [hoff] at ee; cases ee
    have hon2 := hon
    unfold holdOn at hon2
    rw [Bool.and_eq_true] at hon2
    obtain ⟨hbw, hbt⟩ := hon2
    have hkt := bsB_lt hbt
    have hkw := bsB_lt hbw
    rw [hW, wrkC_eq] at hkw
    simp only [tabCmps, wrkC, List.length_map] at hkt hkw
    obtain ⟨t, ht⟩ := get_ex (xs := d.tabs) (i := bsI (tabCmps d.tabs name)) hkt
    obtain ⟨w, hw⟩ := get_ex (xs := d.works) (i := bsI (wrkC d.works s)) hkw
    cbv
    refine (table46 cs2 name).mono (fun v h3 hR => ?_)
    obtain ⟨l3, zt, tt, rfl, hbt2⟩ := hR
    obtain ⟨hzt, -⟩ := hbt2.at_
    have hzt : IsN zt (bsI (tabCmps d.tabs name)) := hzt
    cbv
    refine (work50 (cs2.mono l3) s).mono (fun v h4 hR => ?_)
    obtain ⟨l4, zw, tw, rfl, hbw2⟩ := hR
    obtain ⟨hzw, -⟩ := hbw2.at_
    have hzw : IsN zw (bsI (wrkC d.works s)) := by
      have h1 : IsN zw (bsI (wrkCmps W s)) := hzw
      rw [hW, wrkC_eq] at h1; exact h1
    have hktl := (List.getElem?_eq_some_iff.1 ht).1
    have hkwl := (List.getElem?_eq_some_iff.1 hw).1
    generalize hkte : bsI (tabCmps d.tabs name) = kt at *
    generalize hkwe : bsI (wrkC d.works s) = kw at *
    have l34 := l3.trans l4
    have lh4 := l2.trans l34
    have cs4 := cs2.mono l34
    refine cs4.elim (fun m1 m2 x3 m3 k3 x4 m4 k4 o f0 f1 f2 f3 f4 f5 f6 f7 _ => ?_)
    have hm2 : m2 = d.works.length := by rw [f4, hW, List.length_map]
    have hwW : W[kw]? = some (w, true) := by rw [hW, List.getElem?_map, hw]; rfl
    have hckw : (some (⟨wb, 0, none⟩ : Addr)).isSome = true ∧ 0 ≤ zw ∧ zw < (m2 : Int) := ⟨rfl, hzw.ix (by omega)⟩
    have hckt : (some (⟨tb, 0, none⟩ : Addr)).isSome = true ∧ 0 ≤ zt ∧ zt < (m1 : Int) := ⟨rfl, hzt.ix (by omega)⟩
    cbv
    rw [offm A]
    rw [offm A]
    refine ldb f0 rfl rfl ?_
    cbv
    refine ⟨hckw, ?_⟩
    cbv
    rw [offm A]
    rw [offm A]
    refine ldb f0 rfl rfl ?_
    cbv
    refine ⟨hckt, ?_⟩
    cbv
    obtain ⟨⟨nm, cols, key, only⟩, rows⟩ := t
    refine ld_tbl (f3.sl f2) ht hzt.eq (fun y1 y2 y3 y4 y5 y6 r1 r2 => ?_)
    have hrl : y5 ≤ 2 ^ 37 := by have := sm.rows _ (List.mem_of_getElem? ht); have := r2.len; simp only at *; omega
    cbv
    refine put55e (nm := nm) (key := key) (only := only) r1 r2 (lh4 _ _ gr) (qr.mono (lh4.t _)) hrl (fun h5 z1 z2 z3 z4 z5 z6 z7 z8 z9 e1 T1 C1 l5 r3 r4 r5 r6 => ?_)
    have lh5 := lh4.trans l5
    have cs5 := cs4.mono l5
    have hDe : D = (if decide (e1 ≠ 19) && decide ((w.log.length : Int) ≥ 60) then (⟨d.tabs, d.works, H', Wt'⟩, 4)
        else if decide (e1 = 0) = true then (⟨d.tabs.set kt ⟨⟨nm, cols, key, only⟩, T1⟩, d.works.set kw ⟨w.s, w.log ++ [⟨name, C1.op, C1.row⟩], w.marks⟩, H', Wt'⟩, 0) else (⟨d.tabs, d.works, H', Wt'⟩, e1)) := by
      rw [← hD]
      unfold changeR
      rw [hHD]
      simp only
      rw [hkte, hkwe, ht, hw]
      simp only
      rw [← r6]
      rfl
    have fin : ∀ (e : Int) (hh : Heap) (v : Value), Le h hh → RDB hh v ⟨d.tabs, d.works, H', Wt'⟩ → D = (⟨d.tabs, d.works, H', Wt'⟩, e) → ∃ v1 e1 d', Value.tuple #[v, .int .i64 e] = .tuple #[v1, .int .i64 e1] ∧ Le h hh ∧ RDB hh v1 d' ∧ (d', e1) = D :=
      fun e hh v l r hE => ⟨v, e, _, rfl, l, r, hE.symm⟩
    refine cs5.elim (fun p1 p2 p3 p4 p5 p6 p7 p8 p9 g0 i1 i2 i3 i4 i5 i6 i7 hrdb => ?_)
    rw [hWf] at hrdb
    generalize e19 : A .icm .neq e1 19 = u19
    have f19 := e19
    rw [icm_neq A] at e19
    generalize e00 : A .icm .eql e1 0 = u0
    have f00 := e00
    rw [icm_eql A] at e00
    rw [e19, e00] at hDe
    cbv
    rw [f19]
    cases u19 with
    | false =>
      have h19 : e1 = 19 := Decidable.not_not.1 (of_decide_eq_false e19)
      have hu0 : u0 = false := by rw [← e00, h19]; rfl
      subst hu0
      have hDe : D = (⟨d.tabs, d.works, H', Wt'⟩, e1) := hDe
      cbv
      rw [f00]
      cbv
      rw [offm A]
      refine ldb g0 rfl rfl ?_
      cbv
      refine own47K hrdb (fun h6 b1 n1 c1 b2 n2 c2 b3 n3 c3 b4 n4 c4 l6 hd6 => ?_)
      cbv
      exact fin e1 _ _ (lh5.trans l6) hd6 hDe
    | true =>
      have hk3 := hzw.eq
      cbv
      refine ld_log (i5.sl i4) hwW hzw.eq (fun y1 y2 y3 r7 r9 _ => ?_)
      generalize e60 : A .icm .geq (A .nat y2) 60 = u60
      have f60 := e60
      rw [icm_geq A, hA.nat] at e60
      simp only [Int.ofNat_eq_natCast] at e60
      have hy2 : y2 = w.log.length := r7.len
      have hlt60 : u60 = false → y2 < 60 := fun e => by rw [e] at e60; have := of_decide_eq_false e60; omega
      rw [hy2] at e60
      rw [e60] at hDe
      cbv
      rw [f60]
      cases u60 with
      | true =>
        have hDe : D = (⟨d.tabs, d.works, H', Wt'⟩, 4) := hDe
        have h40 : A .icm .eql 4 0 = false := by rw [icm_eql A]; rfl
        cbv
        rw [h40]
        cbv
        rw [offm A]
        refine ldb g0 rfl rfl ?_
        cbv
        refine own47K hrdb (fun h6 b1 n1 c1 b2 n2 c2 b3 n3 c3 b4 n4 c4 l6 hd6 => ?_)
        cbv
        exact fin 4 _ _ (lh5.trans l6) hd6 hDe
      | false =>
        have hlt := hlt60 rfl
        have hlog : w.log.length < 60 := by omega
        cbv
        rw [f00]
        cases u0 with
        | false =>
          have hDe : D = (⟨d.tabs, d.works, H', Wt'⟩, e1) := hDe
          cbv
          rw [offm A]
          refine ldb g0 rfl rfl ?_
          cbv
          refine own47K hrdb (fun h6 b1 n1 c1 b2 n2 c2 b3 n3 c3 b4 n4 c4 l6 hd6 => ?_)
          cbv
          exact fin e1 _ _ (lh5.trans l6) hd6 hDe
        | true =>
          have h10 : e1 = 0 := of_decide_eq_true e00
          have hDe : D = (⟨d.tabs.set kt ⟨⟨nm, cols, key, only⟩, T1⟩, d.works.set kw ⟨w.s, w.log ++ [⟨name, C1.op, C1.row⟩], w.marks⟩, H', Wt'⟩, 0) := hDe
          subst h10
          have hckt5 : (some (⟨tb, 0, none⟩ : Addr)).isSome = true ∧ 0 ≤ zt ∧ zt < (p1 : Int) := ⟨rfl, hzt.ix (by omega)⟩
          cbv
          rw [offm A]
          rw [offm A]
          refine ldb g0 rfl rfl ?_
          cbv
          refine ⟨hckt5, ?_⟩
          cbv
          have rT : shTbl.R h5 [.string nm, .slice z1 z2 z3, .int .i64 key, .bool only, .slice z4 z5 z6] ⟨⟨nm, cols, key, only⟩, T1⟩ := ⟨_, _, _, _, _, _, rfl, r3, r4⟩
          refine i3.setAt (by decide) (i := kt) (by omega) hzt.eq rfl rT (fun h6 k6 t6 o6 => ?_)
          have hctb : c ≠ tb := hct
          have g6 := k6 _ _ g0 (by simpa using hctb)
          have i56 := i5.mono (t6 _ (by decide))
          have r56 := r5.mono (t6 _ (by decide))
          cbv
          refine ld_log (i56.sl i4) hwW hzw.eq (fun y1 y2 y3 r7 r9 ag => ?_)
          have hy3 := r9 rfl
          subst hy3
          cbv
          intro nb7 h7 hnb7 e7
          have l7 : Le h6 h7 := by rw [e7]; exact Le.set hnb7
          have g7 := (congrFun e7 nb7).trans hset_self
          have qx := one_sl (s := shChg) g7 (x := ⟨name, C1.op, C1.row⟩) ⟨_, _, _, rfl, r56.mono (l7.t _)⟩
          cbv
          refine ag _ _ l7 ?_
          cbv
          refine ⟨⟨_, rfl, rfl⟩, ?_⟩
          cbv
          have hy2 := r7.len
          refine appendX_own (r7.mono (l7.t _)) qx (by omega) rfl (by decide) (by simp only at hy2; omega) (fun nb8 c8 h8 hnb8 l8 hc8 o8 => ?_)
          have l68 := l7.trans l8
          have i58 := i56.mono (l68.t _)
          have s8 := o8.sl (n := y3 + 1) (by simp only [List.length_append, List.length_singleton]; simp only at hy2; omega)
          cbv
          refine i58.setF (by decide) (i := kw) hwW hzw.eq rfl (off := 1) (by simp [shWrkG]) (x' := (⟨w.s, w.log ++ [⟨name, C1.op, C1.row⟩], w.marks⟩, false)) (fun cs hcs => ?_) (fun h9 k9 t9 o9 => ?_)
          · obtain ⟨y1, y2, y3, y4, y5, y6, rfl, q1, q2, q3⟩ := hcs
            exact ⟨_, _, _, y4, y5, y6, rfl, s8, q2, fun e => by cases e⟩
          have g8 := l68 _ _ g6
          have hcwb : c ≠ wb := hcw
          have g9 := k9 _ _ g8 (by simpa using hcwb)
          have lh9 : Le h h9 := by
            have h1 : Le h h6 := lh5.kpNew (by simpa using htb) k6
            exact (h1.trans l68).kpNew (by simpa using hwb) k9
          have hdb : RDB h9 (.agg #[.slice (some ⟨tb, 0, none⟩) p1 ct, .slice (some ⟨wb, 0, none⟩) p2 cw, .slice p3 p4 p5, .slice p6 p7 p8]) ⟨d.tabs.set kt ⟨⟨nm, cols, key, only⟩, T1⟩, d.works.set kw ⟨w.s, w.log ++ [⟨name, C1.op, C1.row⟩], w.marks⟩, H', Wt'⟩ := by
            refine ⟨_, _, _, _, _, _, _, _, _, _, _, _, _, rfl, ((o6.mono (l68.t _)).mono (t9 _ (by decide))).sl (by rw [List.length_set]; exact i2), o9.sl (by rw [List.length_set]; exact i4), ((i6.mono (t6 _ (by decide))).mono (l68.t _)).mono (t9 _ (by decide)), ((i7.mono (t6 _ (by decide))).mono (l68.t _)).mono (t9 _ (by decide)), ?_⟩
            rw [List.map_set, hWf]
          cbv
          rw [offm A]
          refine ldb g9 rfl rfl ?_
          cbv
          refine own47K hdb (fun h10 b1 n1 c1 b2 n2 c2 b3 n3 c3 b4 n4 c4 l10 hd6 => ?_)
          cbv
          exact ⟨_, 0, _, rfl, lh9.trans l10, hd6, hDe.symm⟩

end Go.S

set_option maxRecDepth 100000
set_option maxHeartbeats 8000000
set_option linter.unusedVariables false
set_option linter.unusedSimpArgs false
namespace Go.S
open Go.Sx Go.Proofs

def putD (d : DB) (s : Int) (name : ByteArray) (r : Row) : DB × Int := changeR d ⟨s, name, true⟩ (doPut r)
def takeD (d : DB) (s : Int) (name : ByteArray) (k : Val) : DB × Int := changeR d ⟨s, name, true⟩ (doTake k)
def createD (d : DB) (s : Sch) : DB × Int := createR d s (bsI (tabCmps d.tabs s.name)) (bsB (tabCmps d.tabs s.name))
def beginD (d : DB) (s : Int) : DB × Int := beginR d s (bsI (wrkC d.works s)) (bsB (wrkC d.works s))

/-- What a state's value goes on with. -/
abbrev DbK (h : Heap) (d' : DB) (e : Int) (k : Value → Heap → Prop) : Prop :=
  ∀ h' b1 n1 c1 b2 n2 c2 b3 n3 c3 b4 n4 c4, Le h h' → RDB h' (.agg #[.slice b1 n1 c1, .slice b2 n2 c2, .slice b3 n3 c3, .slice b4 n4 c4]) d' → k (.tuple #[.agg #[.slice b1 n1 c1, .slice b2 n2 c2, .slice b3 n3 c3, .slice b4 n4 c4], .int .i64 e]) h'

theorem isn_inj {z : Int} {i j : Nat} (a : IsN z i) (b : IsN z j) : i = j := by have := a.eq; have := b.eq; omega

theorem create17K {d : DB} {h : Heap} {v : Value} (q : RDB h v d) {nm : ByteArray} {cols : List Col} {key : Int} {only : Bool} {sb : Option Addr} {sn sc : Nat} (qs : Sl 104 shCol h (.slice sb sn sc) cols) (sm : Small d) {D : DB × Int} (hD : createD d ⟨nm, cols, key, only⟩ = D)
    {k : Value → Heap → Prop} (hk : DbK h D.1 D.2 k) : Ct 17 [v, .agg #[.string nm, .slice sb sn sc, .int .i64 key, .bool only]] h k :=
  (create17 q qs sm.tabs sm.works).mono (fun v h' hR => by
    obtain ⟨v1, e, z, i, is, hv, l, hd, he, hz, hb⟩ := hR
    obtain ⟨h1, h2⟩ := hb.at_
    have hi := isn_inj hz h1
    have hR2 : createR d ⟨nm, cols, key, only⟩ i is = D := by rw [← hD, hi, h2]; rfl
    rw [hR2] at hd he
    obtain ⟨b1, n1, c1, b2, n2, c2, b3, n3, c3, b4, n4, c4, hf⟩ := hd.form
    rw [hv, hf, he]
    exact hk h' _ _ _ _ _ _ _ _ _ _ _ _ l (by rw [← hf]; exact hd))

theorem begin18K {d : DB} {h : Heap} {v : Value} (q : RDB h v d) (s : Int) (sm : Small d) {D : DB × Int} (hD : beginD d s = D) {k : Value → Heap → Prop} (hk : DbK h D.1 D.2 k) : Ct 18 [v, .int .i64 s] h k :=
  (begin18 q s sm.works).mono (fun v h' hR => by
    obtain ⟨v1, e, z, i, is, hv, l, hd, he, hz, hb⟩ := hR
    obtain ⟨h1, h2⟩ := hb.at_
    have hi := isn_inj hz h1
    have hR2 : beginR d s i is = D := by rw [← hD, hi, h2]; rfl
    rw [hR2] at hd he
    obtain ⟨b1, n1, c1, b2, n2, c2, b3, n3, c3, b4, n4, c4, hf⟩ := hd.form
    rw [hv, hf, he]
    exact hk h' _ _ _ _ _ _ _ _ _ _ _ _ l (by rw [← hf]; exact hd))

theorem put23K {d : DB} {h : Heap} {v : Value} (q : RDB h v d) (sm : Small d) (s : Int) (name : ByteArray) {r : Row} {vb : Option Addr} {vn vc : Nat} (qr : Sl 68 shVal h (.slice vb vn vc) r) (hv : Calm d ⟨s, name, true⟩) {D : DB × Int} (hD : putD d s name r = D) {k : Value → Heap → Prop}
    (hk : DbK h D.1 D.2 k) : Ct 23 [v, .int .i64 s, .string name, .slice vb vn vc] h k := by
  obtain ⟨A, hA⟩ := Ar.ex
  obtain ⟨b1, n1, c1, b2, n2, c2, b3, n3, c3, b4, n4, c4, rfl⟩ := q.form
  refine fn_of_sx A (tabOk T23.plan T23.pub) Tryz.func23 rfl (by kernel_rfl) ?_
  cbv
  intro rb h1 hrb e1
  have l1 : Le h h1 := by rw [e1]; exact Le.set hrb
  have g1 := (congrFun e1 rb).trans hset_self
  cbv
  refine (change58p (q.mono l1) sm s name g1 (qr.mono (l1.t _)) hv).mono (fun v h2 hR => ?_)
  obtain ⟨v1, e, d', hv, l2, hd, hE⟩ := hR
  have hE2 : (d', e) = D := hE.trans hD
  subst hE2
  obtain ⟨b1, n1, c1, b2, n2, c2, b3, n3, c3, b4, n4, c4, hf⟩ := hd.form
  rw [hv, hf]
  have hfin := hk h2 b1 n1 c1 b2 n2 c2 b3 n3 c3 b4 n4 c4 (l1.trans l2) (by rw [← hf]; exact hd)
  cbv
  exact hfin

end Go.S

set_option maxRecDepth 100000
set_option maxHeartbeats 8000000
set_option linter.unusedVariables false
set_option linter.unusedSimpArgs false
namespace Go.S
open Go.Sx Go.Proofs

def db0 : DB := ⟨[], [], [], []⟩
def nX : ByteArray := ⟨#[120]⟩
def nA : ByteArray := ⟨#[97]⟩
def kS : Sch := ⟨nX, [⟨nA, 2, false⟩], 0, false⟩
def kd1 : DB := (createD db0 kS).1
def kd2 : DB := (beginD kd1 1).1
def kd3 : DB := (beginD kd2 2).1
def kd4 : DB := (putD kd3 1 nX [⟨2, 5, noName⟩]).1
def kd5 : DB := (putD kd4 2 nX [⟨2, 6, noName⟩]).1

def smallB (d : DB) : Bool := decide (d.tabs.length ≤ 1000) && decide (d.works.length ≤ 1000) && d.tabs.all (fun t => decide (t.rows.length ≤ 1000)) && decide (d.holds.length ≤ 1000) && decide (d.waits.length ≤ 1000)
theorem smallB_ok {d : DB} (h : smallB d = true) : Small d := by
  unfold smallB at h
  simp only [Bool.and_eq_true, decide_eq_true_eq, List.all_eq_true] at h
  obtain ⟨⟨⟨⟨h1, h2⟩, h3⟩, h4⟩, h5⟩ := h
  exact ⟨by omega, by omega, fun t ht => by have := h3 t ht; omega, by omega, by omega⟩
def calmB (d : DB) (hd : Hld) : Bool := askFree d.holds hd || !(victim (edges (askH d.holds hd) (askW d.holds d.waits hd)) hd.s).2
theorem calmB_ok {d : DB} {hd : Hld} (h : calmB d hd = true) : Calm d hd := fun hf => by
  unfold calmB at h
  rw [hf] at h
  simpa using h

theorem k1 : createD db0 kS = (kd1, 0) := by kernel_rfl
theorem k2 : beginD kd1 1 = (kd2, 0) := by kernel_rfl
theorem k3 : beginD kd2 2 = (kd3, 0) := by kernel_rfl
theorem k4 : putD kd3 1 nX [⟨2, 5, noName⟩] = (kd4, 0) := by kernel_rfl
theorem k5 : putD kd4 2 nX [⟨2, 6, noName⟩] = (kd5, 16) := by kernel_rfl
theorem k5w : kd5.works.length = 2 := by kernel_rfl
theorem ks0 : Small db0 := smallB_ok (by kernel_rfl)
theorem ks1 : Small kd1 := smallB_ok (by kernel_rfl)
theorem ks2 : Small kd2 := smallB_ok (by kernel_rfl)
theorem ks3 : Small kd3 := smallB_ok (by kernel_rfl)
theorem ks4 : Small kd4 := smallB_ok (by kernel_rfl)
theorem kc3 : Calm kd3 ⟨1, nX, true⟩ := calmB_ok (by kernel_rfl)
theorem kc4 : Calm kd4 ⟨2, nX, true⟩ := calmB_ok (by kernel_rfl)

theorem rdb0 (h : Heap) : RDB h (.agg #[.slice none 0 0, .slice none 0 0, .slice none 0 0, .slice none 0 0]) db0 :=
  ⟨_, _, _, _, _, _, _, _, _, _, _, _, [], rfl, Sl.nil, Sl.nil, Sl.nil, Sl.nil, rfl⟩

theorem known14 (h : Heap) : Ct 14 [] h (fun v h' => Le h h' ∧ v = .bool true) := by
  obtain ⟨A, hA⟩ := Ar.ex
  have e00 : A .icm .eql 0 0 = true := by rw [icm_eql A]; rfl
  have e16 : A .icm .eql 16 16 = true := by rw [icm_eql A]; rfl
  have e2 : A .icm .eql (A .nat 2) 2 = true := by rw [icm_eql A, hA.nat]; rfl
  refine fn_of_sx A (tabOk T14.plan T14.pub) Tryz.func14 rfl (by kernel_rfl) ?_
  cbv
  intro nb h1 hnb e1
  have l1 : Le h h1 := by rw [e1]; exact Le.set hnb
  have g1 := (congrFun e1 nb).trans hset_self
  cbv
  refine create17K (rdb0 h1) (nm := nX) (key := 0) (only := false) (one_sl (s := shCol) g1 (x := ⟨nA, 2, false⟩) rfl) ks0 k1 (fun h2 b1 n1 c1 b2 n2 c2 b3 n3 c3 b4 n4 c4 l2 hd => ?_)
  cbv
  refine begin18K hd 1 ks1 k2 (fun h3 b1 n1 c1 b2 n2 c2 b3 n3 c3 b4 n4 c4 l3 hd => ?_)
  cbv
  refine begin18K hd 2 ks2 k3 (fun h4 b1 n1 c1 b2 n2 c2 b3 n3 c3 b4 n4 c4 l4 hd => ?_)
  cbv
  intro nb5 h5 hnb5 e5
  have l5 : Le h4 h5 := by rw [e5]; exact Le.set hnb5
  have g5 := (congrFun e5 nb5).trans hset_self
  cbv
  refine put23K (hd.mono l5) ks3 1 nX (one_sl (s := shVal) g5 (x := ⟨2, 5, noName⟩) rfl) kc3 k4 (fun h6 b1 n1 c1 b2 n2 c2 b3 n3 c3 b4 n4 c4 l6 hd => ?_)
  cbv
  intro nb7 h7 hnb7 e7
  have l7 : Le h6 h7 := by rw [e7]; exact Le.set hnb7
  have g7 := (congrFun e7 nb7).trans hset_self
  cbv
  refine put23K (hd.mono l7) ks4 2 nX (one_sl (s := shVal) g7 (x := ⟨2, 6, noName⟩) rfl) kc4 k5 (fun h8 b1 n1 c1 b2 n2 c2 b3 n3 c3 b4 n4 c4 l8 hd => ?_)
  have hw : n2 = 2 := by
    obtain ⟨_, _, _, _, _, _, _, _, _, _, _, _, ws, he, _, q2, _, _, hwm⟩ := hd.out
    cases he
    have := q2.len
    rw [this, ← k5w, ← hwm, List.length_map]
  subst hw
  cbv
  rw [e00]
  cbv
  rw [e00]
  cbv
  rw [e00]
  cbv
  rw [e00]
  cbv
  rw [e16]
  cbv
  rw [e2]
  exact ⟨((((((l1.trans l2).trans l3).trans l4).trans l5).trans l6).trans l7).trans l8, rfl⟩
end Go.S

set_option maxRecDepth 100000
set_option maxHeartbeats 8000000
set_option linter.unusedVariables false
set_option linter.unusedSimpArgs false
namespace Go.S
open Go.Sx Go.Proofs

theorem within15 (a : Int) (n : Nat) (hn : 0 < n) (hn2 : n ≤ 2 ^ 40) (h : Heap) {k : Value → Heap → Prop} (hk : ∀ z i, IsN z i → i = (a % (n : Int)).toNat → i < n → k (.int .i64 z) h) : Ct 15 [.int .i64 a, .int .i64 (n : Int)] h k := by
  obtain ⟨A, hA⟩ := Ar.ex
  obtain ⟨m, hm⟩ : ∃ m : Int, m = (n : Int) := ⟨_, rfl⟩
  rw [← hm]
  have hm0 : m ≠ 0 := by omega
  have hrem : A .ari .rem .i64 a m = a.tmod m := by rw [hA.ari]; rfl
  have hb1 : a.tmod m < m := by have := Int.tmod_lt_of_pos a (show 0 < m by omega); omega
  have hb2 : -m < a.tmod m := by
    have := Int.lt_tmod_of_pos a (show 0 < m by omega); omega
  have hemod : a % m = if a.tmod m < 0 then a.tmod m + m else a.tmod m := by
    rw [Int.tmod_eq_emod]
    have h1 := Int.emod_nonneg a hm0
    have h2 := Int.emod_lt_of_pos a (show 0 < m by omega)
    by_cases hc : 0 ≤ a ∨ m ∣ a
    · rw [if_pos hc]
      rw [if_neg (by omega)]; omega
    · rw [if_neg hc]
      have : (m.natAbs : Int) = m := by omega
      rw [this, if_pos (by omega)]; omega
  generalize ht : a.tmod m = t at *
  generalize eu : A .icm .lss t 0 = u
  have fu := eu
  rw [icm_lss A] at eu
  have key : ∀ z : Int, z = a % m → k (.int .i64 z) h := fun z hz => by
    have h1 := Int.emod_nonneg a hm0
    have h2 := Int.emod_lt_of_pos a (show 0 < m by omega)
    refine hk z (a % (n : Int)).toNat ⟨?_⟩ rfl ?_
    · rw [← hm]; omega
    · rw [← hm]; omega
  have hadd : t < 0 → A .ari .add .i64 t m = t + m := fun h => by
    rw [hA.ari]; simp only [ari]
    rw [IntWalk.i64_in _ (by omega)]
  refine fn_of_sx A (tabOk T15.plan T15.pub) Tryz.func15 rfl (by kernel_rfl) ?_
  cbv
  refine ⟨hm0, ?_⟩
  cbv
  rw [hrem]
  rw [fu]
  cases u with
  | true =>
    have hneg := of_decide_eq_true eu
    have hk2 := key (t + m) (by rw [hemod, if_pos hneg])
    cbv
    rw [hadd hneg]
    exact hk2
  | false =>
    have hneg := of_decide_eq_false eu
    have hk2 := key t (by rw [hemod, if_neg hneg])
    cbv
    exact hk2

def shNames : List ByteArray := [⟨#[116, 97]⟩, ⟨#[116, 98]⟩, ⟨#[116, 99]⟩]
def shColsE : List Col := [⟨nA, 2, false⟩, ⟨⟨#[98]⟩, 3, true⟩]
def shapeS (t : Nat) : Sch := ⟨(shNames[t]?).getD noName, shColsE, 0, decide (t = 2)⟩
theorem shape16 {z : Int} {t : Nat} (hz : IsN z t) (ht : t < 3) (h : Heap) {k : Value → Heap → Prop}
    (hk : ∀ h' b n c nm o, Le h h' → nm = (shapeS t).name → o = (shapeS t).only → Sl 104 shCol h' (.slice b n c) shColsE → k (.agg #[.string nm, .slice b n c, .int .i64 0, .bool o]) h') : Ct 16 [.int .i64 z] h k := by
  obtain ⟨A, hA⟩ := Ar.ex
  obtain ⟨x, hx⟩ := get_ex (xs := shNames) (i := t) ht
  have hxn : x = (shapeS t).name := by unfold shapeS; rw [hx]; rfl
  have he : A .icm .eql z 2 = decide (t = 2) := by
    rw [icm_eql A, decide_eq_decide]; have := hz.eq; omega
  have hck : (0 : Int) ≤ z ∧ z < ((3 : Nat) : Int) := hz.ix ht
  refine fn_of_sx A (tabOk T16.plan T16.pub) Tryz.func16 rfl (by kernel_rfl) ?_
  cbv
  intro n1 h1 hn1 e1
  have l1 : Le h h1 := by rw [e1]; exact Le.set hn1
  have g1 := (congrFun e1 n1).trans hset_self
  have s1 : Sl 104 shCol h1 (.slice (some ⟨n1, 0, none⟩) 2 2) shColsE := by
    refine Sl.fresh (xs := shColsE) g1 ⟨by simp [shColsE, shCol], fun j y hj => ?_⟩ (by simp [shColsE]) (by simp [shColsE])
    match j, hj with
    | 0, hj => simp [shColsE] at hj; subst hj; rfl
    | 1, hj => simp [shColsE] at hj; subst hj; rfl
    | j + 2, hj => simp [shColsE] at hj
  cbv
  intro n2 h2 hn2 e2
  have l2 : Le h1 h2 := by rw [e2]; exact Le.set hn2
  have g2 := (congrFun e2 n2).trans hset_self
  have s2 : Sl 9 shStr h2 (.slice (some ⟨n2, 0, none⟩) 3 3) shNames := three_sl (s := shStr) rfl g2 (x := ⟨#[116, 97]⟩) (y := ⟨#[116, 98]⟩) (w := ⟨#[116, 99]⟩) rfl rfl rfl
  cbv
  refine ⟨⟨rfl, hck⟩, ?_⟩
  cbv
  refine s2.load hx hz.eq (fun cs hcs => ?_)
  have hcs : cs = [.string x] := hcs
  subst hcs
  have hfin := hk h2 _ _ _ x (decide (t = 2)) (l1.trans l2) hxn rfl (s1.mono (l2.t _))
  cbv
  rw [he]
  exact hfin
end Go.S

set_option maxRecDepth 100000
set_option maxHeartbeats 8000000
set_option linter.unusedVariables false
set_option linter.unusedSimpArgs false
namespace Go.S
open Go.Sx Go.Proofs

theorem lang172 (h : Heap) : Ct 172 [] h (fun v h' => Le h h' ∧ ∃ nb, v = .slice (some ⟨nb, 0, none⟩) 41 41 ∧ Sl 9 shStr h' v langL) := by
  obtain ⟨A, hA⟩ := Ar.ex
  refine fn_of_sx A (tabOk T172.plan T172.pub) Tryz.func172 rfl (by kernel_rfl) ?_
  cbv
  intro n h1 hn e1
  have g : h1 n = some (.cells (List.toArray (langL.map Value.string)) 9 (0, 0)) := by rw [e1]; exact hset_self
  have hr : Sx.Rows shStr h1 (langL.map Value.string) 0 langL := by
    refine ⟨by decide, fun i x hx => ?_⟩
    have hlt := (List.getElem?_eq_some_iff.1 hx).1
    show List.take 1 (List.drop (0 + i * 1) _) = _
    rw [Nat.zero_add, Nat.mul_one, List.drop_eq_getElem_cons (by simpa using hlt)]
    rw [List.getElem?_eq_some_iff] at hx
    simp [hx.2]
  have hs : Sl 9 shStr h1 (.slice (some ⟨n, 0, none⟩) 41 41) langL := Sl.fresh (xs := langL) g hr (by decide) (by decide)
  have hl : Le h h1 := by rw [e1]; exact Le.set hn
  clear g hr e1
  cbv
  exact ⟨hl, n, rfl, hs⟩


theorem name134 {h : Heap} {s : ByteArray} : Ct 134 [.string s] h (fun v h' => Le h h' ∧ ∃ t, v = .bool t ∧ t = nameOk s) := by
  obtain ⟨A, hA⟩ := Ar.ex
  refine fn_of_sx A (tabOk T134.plan T134.pub) Tryz.func134 rfl (by kernel_rfl) ?_
  have hn : A .sln s = (s.size : Int) := by rw [hA.sln]
  have hnN : IsN (A .sln s) s.size := ⟨hn⟩
  have hby : ∀ z i, IsN z i → A .byte s z = byteAt s i := fun z i hz => by
    rw [hA.byte]; simp only [byteAt]; rw [hz.eq]; rfl
  generalize e1 : A .icm .lss (A .sln s) 1 = t1
  generalize e2 : A .icm .gtr (A .sln s) 12 = t2
  generalize e3 : A .icm .lss (A .byte s 0) 97 = t3
  generalize e4 : A .icm .gtr (A .byte s 0) 122 = t4
  have h12 : t2 = false → s.size ≤ 12 := fun e => by
    rw [e, hA.icm, hn] at e2
    have := of_decide_eq_false e2
    omega
  have hf : okFst s = !(t1 || t2 || t3 || t4) := by
    rw [← e1, ← e2, ← e3, ← e4, hby 0 0 ⟨rfl⟩, hn, hA.icm]
    rfl
  have h1s : t1 = false → (0 : Int) ≤ 0 ∧ 0 < (s.size : Int) := fun e => by
    rw [e, hA.icm, hn] at e1
    have := of_decide_eq_false e1
    omega
  have nope : ∀ (t : Bool) (b : Bool), t = false → okFst s = false → t = nameOk s := fun t b ht hq => by rw [ht, nameOk, hq]; rfl
  have hstart : ∀ (t : Bool), t = true → t = t := fun _ _ => rfl
  cbv
  rw [e1]
  cases t1 with
  | true =>
    cbv
    exact ⟨Le.refl _, false, rfl, nope _ true rfl hf⟩
  | false =>
    have h1 := h1s rfl
    cbv
    rw [e2]
    cases t2 with
    | true =>
      cbv
      exact ⟨Le.refl _, false, rfl, nope _ true rfl hf⟩
    | false =>
      cbv
      refine ⟨h1, ?_⟩
      cbv
      rw [e3]
      cases t3 with
      | true =>
        cbv
        exact ⟨Le.refl _, false, rfl, nope _ true rfl hf⟩
      | false =>
        cbv
        refine ⟨h1, ?_⟩
        cbv
        rw [e4]
        cases t4 with
        | true =>
          cbv
          exact ⟨Le.refl _, false, rfl, nope _ true rfl hf⟩
        | false =>
          cbv
          have hf' : okFst s = true := hf
          have h12 := h12 rfl
          clear hf e1 e2 e3 e4 h1s nope hstart
          refine LoopX.go (G := Int) (fun z => [(3, .v (.int .i64 z))]) (fun _ => []) (fun n z h' => ∃ i : Nat, IsN z i ∧ n = s.size - i ∧ i ≤ s.size ∧ h' = h ∧ ∀ j, j < i → okCh (byteAt s j) = true) s.size 0 ⟨?_, ?_, ?_⟩ ⟨0, ⟨rfl⟩, rfl, by omega, rfl, fun j hj => (by omega)⟩ ?_
          · cbv
          · cbv
          · cbv
          · intro n z h' hI
            cbv
            obtain ⟨i, hz, hn', hi, rfl, hall⟩ := hI
            refine bsel_mk (fun hc => ?_) (fun hc => ?_)
            · rw [hz.lt2 (A := A) hnN] at hc
              have hlt := of_decide_eq_true hc
              clear hc
              cbv
              refine ⟨hz.ix hlt, ?_⟩
              cbv
              rw [hby z i hz]
              generalize hw : byteAt s i = w
              generalize e1 : A .icm .lss w 97 = t1
              generalize e2 : A .icm .gtr w 122 = t2
              generalize e3 : A .icm .lss w 48 = t3
              generalize e4 : A .icm .gtr w 57 = t4
              generalize e5 : A .icm .neq w 95 = t5
              have hok : okCh w = !((t1 || t2) && (t3 || t4) && t5) := by
                rw [← e1, ← e2, ← e3, ← e4, ← e5, hA.icm]; rfl
              have bad : okCh w = false → nameOk s = false := fun e => by
                have : okAll s = false := by
                  unfold okAll
                  rw [List.all_eq_false]
                  exact ⟨i, by simp [hlt], by rw [hw, e]; simp⟩
                rw [nameOk, this]; simp
              have good : okCh w = true → ∀ j, j < i + 1 → okCh (byteAt s j) = true := fun e j hj => by
                rcases Nat.lt_or_ge j i with h | h
                · exact hall j h
                · have : j = i := by omega
                  rw [this, hw, e]
              cbv
              cases t1 with
              | true =>
                cbv
                rw [e3]
                cases t3 with
                | true =>
                  cbv
                  rw [e5]
                  cases t5 with
                  | true =>
                    cbv
                    exact ⟨Le.refl _, false, rfl, (bad (by rw [hok]; rfl)).symm⟩
                  | false =>
                    cbv
                    exact ⟨s.size - (i + 1), _, by omega, ⟨by cbv, by cbv, by cbv⟩, i + 1, hz.succ (A := A) (by omega), rfl, by omega, rfl, good (by rw [hok]; rfl)⟩
                | false =>
                  cbv
                  rw [e4]
                  cases t4 with
                  | true =>
                    cbv
                    rw [e5]
                    cases t5 with
                    | true =>
                      cbv
                      exact ⟨Le.refl _, false, rfl, (bad (by rw [hok]; rfl)).symm⟩
                    | false =>
                      cbv
                      exact ⟨s.size - (i + 1), _, by omega, ⟨by cbv, by cbv, by cbv⟩, i + 1, hz.succ (A := A) (by omega), rfl, by omega, rfl, good (by rw [hok]; rfl)⟩
                  | false =>
                    cbv
                    exact ⟨s.size - (i + 1), _, by omega, ⟨by cbv, by cbv, by cbv⟩, i + 1, hz.succ (A := A) (by omega), rfl, by omega, rfl, good (by rw [hok]; rfl)⟩
              | false =>
                cbv
                rw [e2]
                cases t2 with
                | true =>
                  cbv
                  rw [e3]
                  cases t3 with
                  | true =>
                    cbv
                    rw [e5]
                    cases t5 with
                    | true =>
                      cbv
                      exact ⟨Le.refl _, false, rfl, (bad (by rw [hok]; rfl)).symm⟩
                    | false =>
                      cbv
                      exact ⟨s.size - (i + 1), _, by omega, ⟨by cbv, by cbv, by cbv⟩, i + 1, hz.succ (A := A) (by omega), rfl, by omega, rfl, good (by rw [hok]; rfl)⟩
                  | false =>
                    cbv
                    rw [e4]
                    cases t4 with
                    | true =>
                      cbv
                      rw [e5]
                      cases t5 with
                      | true =>
                        cbv
                        exact ⟨Le.refl _, false, rfl, (bad (by rw [hok]; rfl)).symm⟩
                      | false =>
                        cbv
                        exact ⟨s.size - (i + 1), _, by omega, ⟨by cbv, by cbv, by cbv⟩, i + 1, hz.succ (A := A) (by omega), rfl, by omega, rfl, good (by rw [hok]; rfl)⟩
                    | false =>
                      cbv
                      exact ⟨s.size - (i + 1), _, by omega, ⟨by cbv, by cbv, by cbv⟩, i + 1, hz.succ (A := A) (by omega), rfl, by omega, rfl, good (by rw [hok]; rfl)⟩
                | false =>
                  cbv
                  exact ⟨s.size - (i + 1), _, by omega, ⟨by cbv, by cbv, by cbv⟩, i + 1, hz.succ (A := A) (by omega), rfl, by omega, rfl, good (by rw [hok]; rfl)⟩
            · rw [hz.lt2 (A := A) hnN] at hc
              have hge := of_decide_eq_false hc
              cbv
              have hallb : okAll s = true := by
                unfold okAll
                rw [List.all_eq_true]
                intro j hj
                rw [List.mem_range] at hj
                exact hall j (by omega)
              refine (lang172 h').mono (fun v h2 hR => ?_)
              obtain ⟨l2, nb, rfl, ql⟩ := hR
              cbv
              refine LoopX.go (G := Int) (fun z => [(6, .v (.int .i64 z))]) (fun _ => []) (fun n z h3 => ∃ i : Nat, IsN z i ∧ n = 41 - i ∧ i ≤ 41 ∧ h3 = h2 ∧ ∀ j, j < i → ∀ y, langL[j]? = some y → y ≠ s) 41 0 ⟨?_, ?_, ?_⟩ ⟨0, ⟨rfl⟩, by omega, by omega, rfl, fun j hj => (by omega)⟩ ?_
              · cbv
              · cbv
              · cbv
              · intro n2 z2 h3 hI2
                cbv
                obtain ⟨i2, hz2, hn2, hi2, rfl, hall2⟩ := hI2
                refine bsel_mk (fun hc => ?_) (fun hc => ?_)
                · have hlt2 := hz2.lt hc
                  clear hc
                  cbv
                  obtain ⟨x, hx⟩ := get_ex (xs := langL) (i := i2) hlt2
                  refine ⟨⟨rfl, hz2.ix hlt2⟩, ?_⟩
                  cbv
                  refine ql.load hx hz2.eq (fun cs hcs => ?_)
                  have hcs : cs = [.string x] := hcs
                  subst hcs
                  cbv
                  rw [scm_eql A]
                  by_cases hxs : x = s
                  · rw [decide_eq_true hxs]
                    have hin : inLang s = true := inLang_iff.2 (by rw [← hxs]; exact List.mem_of_getElem? hx)
                    cbv
                    exact ⟨l2, false, rfl, by rw [nameOk, hin]; simp⟩
                  · rw [decide_eq_false hxs]
                    cbv
                    refine ⟨41 - (i2 + 1), _, by omega, ⟨?_, ?_, ?_⟩, i2 + 1, hz2.succ (A := A) (by omega), rfl, by omega, rfl, ?_⟩
                    · cbv
                    · cbv
                    · cbv
                    · intro j hj y hy
                      rcases Nat.lt_or_ge j i2 with h | h
                      · exact hall2 j h y hy
                      · have : j = i2 := by omega
                        subst this
                        rw [hx] at hy; cases hy; exact hxs
                · have hge2 := hz2.ge hc
                  have hin : inLang s = false := by
                    cases hi : inLang s with
                    | false => rfl
                    | true =>
                      have hm := inLang_iff.1 hi
                      obtain ⟨j, hj⟩ := List.getElem?_of_mem hm
                      have hjl : j < 41 := (List.getElem?_eq_some_iff.1 hj).1
                      exact absurd rfl (hall2 j (by omega) s hj)
                  cbv
                  exact ⟨l2, true, rfl, by rw [nameOk, hf', hallb, hin]; rfl⟩
end Go.S

set_option maxRecDepth 100000
set_option maxHeartbeats 8000000
set_option linter.unusedVariables false
set_option linter.unusedSimpArgs false
namespace Go.S
open Go.Sx Go.Proofs

theorem find149 {cols : List Col} {h : Heap} {b : Option Addr} {n c : Nat} (q : Sl 104 shCol h (.slice b n c) cols) {nm s : ByteArray} {k : Int} {only : Bool} :
    Ct 149 [.agg #[.string nm, .slice b n c, .int .i64 k, .bool only], .string s] h (fun v h' => Le h h' ∧ ∃ z t z', v = .tuple #[.int .i64 z, .bool t] ∧ IdxR cols (fun x => decide (x.name = s)) z' ∧ z = max z' 0 ∧ t = decide (z' ≥ 0)) := by
  obtain ⟨A, hA⟩ := Ar.ex
  have hlen := q.len
  obtain ⟨hb1, hb2⟩ := q.bound
  refine fn_of_sx A (tabOk T149.plan T149.pub) Tryz.func149 rfl (by kernel_rfl) ?_
  cbv
  refine LoopX.go (G := Int) (fun z => [(6, .v (.int .i64 z))]) (fun _ => [(2, [.string nm, .slice b n c, .int .i64 k, .bool only])]) (fun m z h' => ∃ i : Nat, IsN z i ∧ m = n - i ∧ i ≤ n ∧ h' = h ∧ ∀ j, j < i → ∀ y, cols[j]? = some y → decide (y.name = s) = false) n 0 ⟨?_, ?_, ?_⟩ ⟨0, ⟨rfl⟩, by omega, by omega, rfl, fun j hj => (by omega)⟩ ?_
  · cbv
  · cbv
  · cbv
  · intro m z h' hI
    cbv
    obtain ⟨i, hz, hm, hi, rfl, hall⟩ := hI
    refine bsel_mk (fun hc => ?_) (fun hc => ?_)
    · have hlt := hz.lt hc
      clear hc
      cbv
      obtain ⟨x, hx⟩ := get_ex (xs := cols) (i := i) (by omega)
      refine ⟨⟨q.isSm (by omega), hz.ix hlt⟩, ?_⟩
      cbv
      refine q.loadF hx hz.eq (o := 0) (m := 1) (by decide) (fun cs hcs => ?_)
      have hcs : cs = [.string x.name, .int .i64 x.kind, .bool x.null] := hcs
      subst hcs
      cbv
      rw [scm_eql A]
      by_cases hxs : x.name = s
      · rw [decide_eq_true hxs]
        have hR : IdxR cols (fun x => decide (x.name = s)) z := ⟨.inr ⟨i, x, hz, hx, by simpa using hxs, hall⟩⟩
        have hz0 := hz.eq
        have e1 : z = max z 0 := by omega
        have e2 : true = decide (z ≥ 0) := by rw [decide_eq_true (by omega)]
        cbv
        exact ⟨Le.refl _, z, true, z, rfl, hR, e1, e2⟩
      · rw [decide_eq_false hxs]
        cbv
        refine ⟨n - (i + 1), _, by omega, ⟨?_, ?_, ?_⟩, i + 1, hz.succ (A := A) (by omega), rfl, by omega, rfl, ?_⟩
        · cbv
        · cbv
        · cbv
        · intro j hj y hy
          rcases Nat.lt_or_ge j i with hji | hji
          · exact hall j hji y hy
          · have : j = i := by omega
            subst this
            rw [hx] at hy; cases hy
            exact decide_eq_false hxs
    · have hge := hz.ge hc
      have hR : IdxR cols (fun x => decide (x.name = s)) (-1) := ⟨.inl ⟨rfl, fun x hx => by
        obtain ⟨j, hj⟩ := List.getElem?_of_mem hx
        have := (List.getElem?_eq_some_iff.1 hj).1
        exact hall j (by omega) x hj⟩⟩
      cbv
      exact ⟨Le.refl _, 0, false, -1, rfl, hR, rfl, rfl⟩

/-- The place of the first one of a name is another one than this one, or it is this one. -/
theorem idx_ne {cols : List Col} {i : Nat} {c : Col} (hc : cols[i]? = some c) {z' : Int} (hr : IdxR cols (fun x => decide (x.name = c.name)) z') :
    decide (max z' 0 ≠ (i : Int)) = (cols.take i).any fun x => decide (x.name = c.name) := by
  have h1 := idx_lt hc hr
  rw [← h1, decide_eq_decide]
  rcases hr.out with ⟨-, h⟩ | ⟨k, x, hk, hx, hp, hall⟩
  · have := h c (List.mem_of_getElem? hc)
    simp at this
  · have hz := hk.eq
    have hki : ¬ i < k := fun h => by have := hall i h c hc; simp at this
    omega

theorem check113 {nm : ByteArray} {cols : List Col} {key : Int} {only : Bool} {h : Heap} {b : Option Addr} {n c : Nat} (q : Sl 104 shCol h (.slice b n c) cols) :
    Ct 113 [.agg #[.string nm, .slice b n c, .int .i64 key, .bool only]] h (fun v h' => Le h h' ∧ ∃ z, v = .int .i64 z ∧ z = schErr ⟨nm, cols, key, only⟩) := by
  obtain ⟨A, hA⟩ := Ar.ex
  have hlen := q.len
  obtain ⟨hb1, hb2⟩ := q.bound
  have hnot1 : A .not true = false := by rw [hA.not]; rfl
  have hnot0 : A .not false = true := by rw [hA.not]; rfl
  generalize e1 : A .icm .lss (A .nat n) 1 = u1
  generalize e2 : A .icm .gtr (A .nat n) 6 = u2
  generalize e3 : A .icm .lss key 0 = u3
  generalize e4 : A .icm .geq key (A .nat n) = u4
  have f1 := e1
  have f2 := e2
  have f3 := e3
  have f4 := e4
  rw [icm_lss A, hA.nat] at e1
  rw [icm_gtr A, hA.nat] at e2
  rw [icm_lss A] at e3
  rw [icm_geq A, hA.nat] at e4
  simp only [Int.ofNat_eq_natCast] at e1 e2 e4
  rw [hlen] at e1 e2 e4
  obtain ⟨E, hE⟩ : ∃ E, E = schErr ⟨nm, cols, key, only⟩ := ⟨_, rfl⟩
  have hS : E = if (!nameOk nm) = true then 12 else if (u1 || u2) = true then 4 else if colsErr cols ≠ 0 then colsErr cols else if (u3 || u4) = true then 1 else if ((cols[key.toNat]?).map (·.null)).getD false = true then 13 else 0 := by
    rw [hE, ← e1, ← e2, ← e3, ← e4]; rfl
  rw [← hE]
  refine fn_of_sx A (tabOk T113.plan T113.pub) Tryz.func113 rfl (by kernel_rfl) ?_
  cbv
  refine name134.mono (fun v h1 hR => ?_)
  obtain ⟨l1, t, rfl, ht⟩ := hR
  rw [← ht] at hS
  cases t with
  | false =>
    cbv
    rw [hnot0]
    cbv
    exact ⟨l1, 12, rfl, hS.symm⟩
  | true =>
    cbv
    rw [hnot1]
    cbv
    rw [f1]
    cases u1 with
    | true =>
      cbv
      exact ⟨l1, 4, rfl, hS.symm⟩
    | false =>
      cbv
      rw [f2]
      cases u2 with
      | true =>
        cbv
        exact ⟨l1, 4, rfl, hS.symm⟩
      | false =>
        have hS : E = if colsErr cols ≠ 0 then colsErr cols else if (u3 || u4) = true then 1 else if ((cols[key.toNat]?).map (·.null)).getD false = true then 13 else 0 := hS
        cbv
        refine LoopX.go (G := Int) (fun z => [(3, .v (.int .i64 z))]) (fun _ => [(1, [.string nm, .slice b n c, .int .i64 key, .bool only])]) (fun m z h' => ∃ i : Nat, IsN z i ∧ m = n - i ∧ i ≤ n ∧ Le h h' ∧ ∀ j, j < i → ∀ y, cols[j]? = some y → colErr cols j y = 0) n 0 ⟨?_, ?_, ?_⟩ ⟨0, ⟨rfl⟩, by omega, by omega, l1, fun j hj => (by omega)⟩ ?_
        · cbv
        · cbv
        · cbv
        · intro m z h' hI
          cbv
          obtain ⟨i, hz, hm, hi, hle, hall⟩ := hI
          refine bsel_mk (fun hc => ?_) (fun hc => ?_)
          · have hlt := hz.lt hc
            clear hc
            obtain ⟨x, hx⟩ := get_ex (xs := cols) (i := i) (by omega)
            have hck : b.isSome = true ∧ 0 ≤ z ∧ z < (n : Int) := ⟨q.isSm (by omega), hz.ix hlt⟩
            have bad : ∀ {hh : Heap} (w : Int), Le h hh → colErr cols i x = w → w ≠ 0 → Le h hh ∧ ∃ z, Value.int .i64 w = .int .i64 z ∧ z = E := fun w l ew hw => by
              refine ⟨l, w, rfl, ?_⟩
              have := colsErr_at hx hall (by rw [ew]; exact hw)
              rw [hS, this, ew, if_pos hw]
            have good : ∀ (h2 : Heap), Le h h2 → colErr cols i x = 0 → ∃ j : Nat, IsN (A .ari .add .i64 z 1) j ∧ n - (i + 1) = n - j ∧ j ≤ n ∧ Le h h2 ∧ ∀ j', j' < j → ∀ y, cols[j']? = some y → colErr cols j' y = 0 := fun h2 l e0 =>
              ⟨i + 1, hz.succ (A := A) (by omega), rfl, by omega, l, fun j hj y hy => by
                rcases Nat.lt_or_ge j i with hji | hji
                · exact hall j hji y hy
                · have : j = i := by omega
                  subst this
                  rw [hx] at hy; cases hy; exact e0⟩
            obtain ⟨xn, xk, xo⟩ := x
            cbv
            refine ⟨hck, ?_⟩
            cbv
            refine (q.mono (hle.t _)).loadF hx hz.eq (o := 0) (m := 1) (by decide) (fun cs hcs => ?_)
            have hcs : cs = [.string xn, .int .i64 xk, .bool xo] := hcs
            subst hcs
            cbv
            refine (find149 (q.mono (hle.t _))).mono (fun v h2 hR => ?_)
            obtain ⟨l2, zk, tk, zk', rfl, hidx, hzk, htk⟩ := hR
            have lh2 := hle.trans l2
            have hne := idx_ne hx hidx
            rw [← hzk] at hne
            generalize g1 : A .icm .neq zk z = w1
            have k1 := g1
            rw [icm_neq A, hz.eq] at g1
            rw [g1] at hne
            generalize g2 : A .icm .lss xk 1 = w2
            generalize g3 : A .icm .gtr xk 3 = w3
            have k2 := g2
            have k3 := g3
            rw [icm_lss A] at g2
            rw [icm_gtr A] at g3
            cbv
            refine ⟨hck, ?_⟩
            cbv
            refine (q.mono (lh2.t _)).loadF hx hz.eq (o := 0) (m := 1) (by decide) (fun cs hcs => ?_)
            have hcs : cs = [.string xn, .int .i64 xk, .bool xo] := hcs
            subst hcs
            cbv
            refine name134.mono (fun v h3 hR => ?_)
            obtain ⟨l3, tn, rfl, htn⟩ := hR
            have lh3 := lh2.trans l3
            have key : colErr cols i ⟨xn, xk, xo⟩ = if (!tn || w1) = true then 12 else if (w2 || w3) = true then 3 else 0 := by
              rw [htn, hne, ← g2, ← g3]; rfl
            cases tn with
            | false =>
              have key : colErr cols i ⟨xn, xk, xo⟩ = 12 := key
              cbv
              rw [hnot0]
              cbv
              exact bad 12 lh3 key (by omega)
            | true =>
              cbv
              rw [hnot1]
              cbv
              rw [k1]
              cases w1 with
              | true =>
                have key : colErr cols i ⟨xn, xk, xo⟩ = 12 := key
                cbv
                exact bad 12 lh3 key (by omega)
              | false =>
                cbv
                refine ⟨hck, ?_⟩
                cbv
                refine (q.mono (lh3.t _)).loadF hx hz.eq (o := 1) (m := 1) (by decide) (fun cs hcs => ?_)
                have hcs : cs = [.string xn, .int .i64 xk, .bool xo] := hcs
                subst hcs
                cbv
                rw [k2]
                cases w2 with
                | true =>
                  have key : colErr cols i ⟨xn, xk, xo⟩ = 3 := key
                  cbv
                  exact bad 3 lh3 key (by omega)
                | false =>
                  cbv
                  refine ⟨hck, ?_⟩
                  cbv
                  refine (q.mono (lh3.t _)).loadF hx hz.eq (o := 1) (m := 1) (by decide) (fun cs hcs => ?_)
                  have hcs : cs = [.string xn, .int .i64 xk, .bool xo] := hcs
                  subst hcs
                  cbv
                  rw [k3]
                  cases w3 with
                  | true =>
                    have key : colErr cols i ⟨xn, xk, xo⟩ = 3 := key
                    cbv
                    exact bad 3 lh3 key (by omega)
                  | false =>
                    have key : colErr cols i ⟨xn, xk, xo⟩ = 0 := key
                    have g := good h3 lh3 key
                    cbv
                    refine ⟨n - (i + 1), _, by omega, ⟨?_, ?_, ?_⟩, g⟩
                    · cbv
                    · cbv
                    · cbv
          · have hge := hz.ge hc
            have hce : colsErr cols = 0 := colsErr_none (fun j hj y hy => hall j (by omega) y hy)
            rw [hce, if_neg (by simp)] at hS
            cbv
            rw [f3]
            cases u3 with
            | true =>
              cbv
              exact ⟨hle, 1, rfl, hS.symm⟩
            | false =>
              cbv
              rw [f4]
              cases u4 with
              | true =>
                cbv
                exact ⟨hle, 1, rfl, hS.symm⟩
              | false =>
                obtain ⟨hk1, hk2⟩ := key_in A f3 f4
                obtain ⟨x, hx⟩ := get_ex (xs := cols) (i := key.toNat) (by omega)
                have hck : b.isSome = true ∧ 0 ≤ key ∧ key < (n : Int) := ⟨q.isSm (by omega), hk1.ix hk2⟩
                rw [hx] at hS
                obtain ⟨xn, xk, xo⟩ := x
                cbv
                refine ⟨hck, ?_⟩
                cbv
                refine (q.mono (hle.t _)).loadF hx hk1.eq (o := 2) (m := 1) (by decide) (fun cs hcs => ?_)
                have hcs : cs = [.string xn, .int .i64 xk, .bool xo] := hcs
                subst hcs
                cases xo with
                | true =>
                  cbv
                  exact ⟨hle, 13, rfl, hS.symm⟩
                | false =>
                  cbv
                  exact ⟨hle, 0, rfl, hS.symm⟩
end Go.S

set_option maxRecDepth 100000
set_option maxHeartbeats 8000000
set_option linter.unusedVariables false
set_option linter.unusedSimpArgs false
namespace Go.S
open Go.Sx Go.Proofs

/-- A session's work of the document's. -/
def shWrkR : Sh Wrk where
  n := 3
  R h cs t := ∃ b1 n1 c1 b2 n2 c2, cs = [.int .i64 t.s, .slice b1 n1 c1, .slice b2 n2 c2] ∧ Sl 77 shChg h (.slice b1 n1 c1) t.log ∧ Sl 146 shMrk h (.slice b2 n2 c2) t.marks
  len := by rintro h cs x ⟨_, _, _, _, _, _, rfl, -⟩; rfl
  one := by rintro h cs x ⟨_, _, _, _, _, _, rfl, -⟩; rfl
  tys := [77, 68, 146]
  mono := by
    rintro h h' cs x hl ⟨b1, n1, c1, b2, n2, c2, rfl, q1, q2⟩
    exact ⟨b1, n1, c1, b2, n2, c2, rfl, q1.mono (hl.sub (by decide)), q2.mono (hl.sub (by decide))⟩

/-- The document's state, its parts. -/
structure RP (h : Heap) (b1 : Option Addr) (n1 c1 : Nat) (b2 : Option Addr) (n2 c2 : Nat) (b3 : Option Addr) (n3 c3 : Nat) (b4 : Option Addr) (n4 c4 : Nat) (d : DB) : Prop where
  tabs : Sl 100 shTbl h (.slice b1 n1 c1) d.tabs
  works : Sl 143 shWrkR h (.slice b2 n2 c2) d.works
  holds : Sl 209 shHld h (.slice b3 n3 c3) d.holds
  waits : Sl 209 shHld h (.slice b4 n4 c4) d.waits
theorem RP.lt {h h' : Heap} {b1 b2 b3 b4 : Option Addr} {n1 c1 n2 c2 n3 c3 n4 c4 : Nat} {d : DB} (q : RP h b1 n1 c1 b2 n2 c2 b3 n3 c3 b4 n4 c4 d) (l : LeT [100, 104, 63, 68, 143, 77, 146, 209] h h') : RP h' b1 n1 c1 b2 n2 c2 b3 n3 c3 b4 n4 c4 d :=
  ⟨q.tabs.mono (l.sub (by decide)), q.works.mono (l.sub (by decide)), q.holds.mono (l.sub (by decide)), q.waits.mono (l.sub (by decide))⟩
theorem RP.mono {h h' : Heap} {b1 b2 b3 b4 : Option Addr} {n1 c1 n2 c2 n3 c3 n4 c4 : Nat} {d : DB} (q : RP h b1 n1 c1 b2 n2 c2 b3 n3 c3 b4 n4 c4 d) (l : Le h h') : RP h' b1 n1 c1 b2 n2 c2 b3 n3 c3 b4 n4 c4 d := q.lt (l.t _)

theorem cmp_drop {a b : List UInt8} : ∀ {i : Nat}, i ≤ a.length → i ≤ b.length → (∀ j, j < i → a[j]? = b[j]?) → Lib.compareBytes a b = Lib.compareBytes (a.drop i) (b.drop i)
  | 0, _, _, _ => rfl
  | i + 1, ha, hb, hall => by
    cases a with
    | nil => simp at ha
    | cons x a =>
      cases b with
      | nil => simp at hb
      | cons y b =>
        have h0 : x = y := by have := hall 0 (by omega); simpa using this
        subst h0
        have : Lib.compareBytes (x :: a) (x :: b) = Lib.compareBytes a b := by simp [Lib.compareBytes]
        rw [this, List.drop_succ_cons, List.drop_succ_cons]
        exact cmp_drop (by simpa using ha) (by simpa using hb) (fun j hj => by have := hall (j + 1) (by omega); simpa using this)

theorem below114 {h : Heap} {a b : ByteArray} (ha60 : a.size ≤ 2 ^ 60) : Ct 114 [.string a, .string b] h (fun v h' => Le h h' ∧ ∃ t, v = .bool t ∧ t = decide (cmpB a b < 0)) := by
  obtain ⟨A, hA⟩ := Ar.ex
  have hna : IsN (A .sln a) a.size := ⟨by rw [hA.sln]⟩
  have hnb : IsN (A .sln b) b.size := ⟨by rw [hA.sln]⟩
  have hsa : a.data.toList.length = a.size := by rw [Array.length_toList]; rfl
  have hsb : b.data.toList.length = b.size := by rw [Array.length_toList]; rfl
  have hgb : ∀ (s : ByteArray) (i : Nat), i < s.size → ∃ x : UInt8, s.data.toList[i]? = some x ∧ byteAt s i = (x.toNat : Int) := fun s i hi => by
    have hi' : i < s.data.size := hi
    refine ⟨s.data[i], by simp [hi'], ?_⟩
    simp [byteAt, Array.getElem?_eq_getElem hi']
  have hby : ∀ s z i, IsN z i → A .byte s z = byteAt s i := fun s z i hz => by
    rw [hA.byte]; simp only [byteAt]; rw [hz.eq]; rfl
  refine fn_of_sx A (tabOk T114.plan T114.pub) Tryz.func114 rfl (by kernel_rfl) ?_
  cbv
  refine LoopX.go (G := Int) (fun z => [(5, .v (.int .i64 z))]) (fun _ => []) (fun m z h' => ∃ i : Nat, IsN z i ∧ m = a.size - i ∧ i ≤ a.size ∧ i ≤ b.size ∧ h' = h ∧ ∀ j, j < i → a.data.toList[j]? = b.data.toList[j]?) a.size 0 ⟨?_, ?_, ?_⟩ ⟨0, ⟨rfl⟩, by omega, by omega, by omega, rfl, fun j hj => (by omega)⟩ ?_
  · cbv
  · cbv
  · cbv
  · intro m z h' hI
    cbv
    obtain ⟨i, hz, hm, hia, hib, rfl, hall⟩ := hI
    have hcd := cmp_drop (a := a.data.toList) (b := b.data.toList) (i := i) (by omega) (by omega) hall
    have f1 : A .icm .lss z (A .sln a) = decide (i < a.size) := hz.lt2 hna
    have f2 : A .icm .lss z (A .sln b) = decide (i < b.size) := hz.lt2 hnb
    have f3 : A .icm .lss (A .sln a) (A .sln b) = decide (a.size < b.size) := hna.lt2 hnb
    by_cases h1 : i < a.size
    · rw [decide_eq_true h1] at f1
      rw [f1]
      cbv
      by_cases h2 : i < b.size
      · rw [decide_eq_true h2] at f2
        rw [f2]
        obtain ⟨x, hx, hxb⟩ := hgb a i h1
        obtain ⟨y, hy, hyb⟩ := hgb b i h2
        have hda : a.data.toList.drop i = x :: a.data.toList.drop (i + 1) := by
          rw [List.drop_eq_getElem_cons (by omega)]
          rw [(List.getElem?_eq_some_iff.1 hx).2]
        have hdb : b.data.toList.drop i = y :: b.data.toList.drop (i + 1) := by
          rw [List.drop_eq_getElem_cons (by omega)]
          rw [(List.getElem?_eq_some_iff.1 hy).2]
        rw [hda, hdb] at hcd
        have c1 : (0 : Int) ≤ z ∧ z < (a.size : Int) := hz.ix h1
        have c2 : (0 : Int) ≤ z ∧ z < (b.size : Int) := hz.ix h2
        have g1 : A .icm .neq (A .byte a z) (A .byte b z) = decide (x ≠ y) := by
          rw [hby a z i hz, hby b z i hz, icm_neq A, hxb, hyb, decide_eq_decide]
          refine not_congr ?_
          constructor
          · intro e; exact UInt8.toNat_inj.1 (Int.ofNat_inj.1 e)
          · rintro rfl; rfl
        have g2 : A .icm .lss (A .byte a z) (A .byte b z) = decide (x < y) := by
          rw [hby a z i hz, hby b z i hz, icm_lss A, hxb, hyb, decide_eq_decide, UInt8.lt_iff_toNat_lt]
          exact Int.ofNat_lt
        cbv
        refine ⟨c1, ?_⟩
        cbv
        refine ⟨c2, ?_⟩
        cbv
        rw [g1]
        by_cases hxy : x = y
        · rw [decide_eq_false (by simp [hxy])]
          cbv
          refine ⟨a.size - (i + 1), _, by omega, ⟨?_, ?_, ?_⟩, i + 1, hz.succ (A := A) (by omega), rfl, by omega, by omega, rfl, ?_⟩
          · cbv
          · cbv
          · cbv
          · intro j hj
            rcases Nat.lt_or_ge j i with h | h
            · exact hall j h
            · have : j = i := by omega
              rw [this, hx, hy, hxy]
        · rw [decide_eq_true (by simpa using hxy)]
          have hfin : decide (x < y) = decide (cmpB a b < 0) := by
            unfold cmpB
            rw [hcd]
            simp only [Lib.compareBytes]
            by_cases hlt : x < y
            · simp [hlt]
            · have : y < x := by
                rw [UInt8.lt_iff_toNat_lt] at hlt ⊢
                have : x.toNat ≠ y.toNat := fun e => hxy (UInt8.toNat_inj.1 e)
                omega
              simp [hlt, this]
          cbv
          refine ⟨c1, ?_⟩
          cbv
          refine ⟨c2, ?_⟩
          cbv
          rw [g2]
          exact ⟨Le.refl _, _, rfl, hfin⟩
      · rw [decide_eq_false h2] at f2
        rw [f2]
        have hb0 : b.data.toList.drop i = [] := List.drop_eq_nil_of_le (by omega)
        have hfin : decide (a.size < b.size) = decide (cmpB a b < 0) := by
          unfold cmpB
          rw [hcd, hb0]
          have : a.data.toList.drop i ≠ [] := by
            intro e
            have := congrArg List.length e
            rw [List.length_drop] at this; simp at this; omega
          cases hd : a.data.toList.drop i with
          | nil => exact absurd hd this
          | cons x r => simp only [Lib.compareBytes]; rw [decide_eq_false (by omega)]; rfl
        cbv
        rw [f3]
        exact ⟨Le.refl _, _, rfl, hfin⟩
    · rw [decide_eq_false h1] at f1
      rw [f1]
      have ha0 : a.data.toList.drop i = [] := List.drop_eq_nil_of_le (by omega)
      have hfin : decide (a.size < b.size) = decide (cmpB a b < 0) := by
        unfold cmpB
        rw [hcd, ha0]
        cases hd : b.data.toList.drop i with
        | nil =>
          have := congrArg List.length hd
          rw [List.length_drop] at this; simp at this
          simp only [Lib.compareBytes]; rw [decide_eq_false (by omega)]; rfl
        | cons y r =>
          have := congrArg List.length hd
          rw [List.length_drop] at this; simp at this
          simp only [Lib.compareBytes]; rw [decide_eq_true (by omega)]; rfl
      cbv
      rw [f3]
      exact ⟨Le.refl _, _, rfl, hfin⟩
end Go.S

set_option maxRecDepth 100000
set_option maxHeartbeats 8000000
set_option linter.unusedVariables false
set_option linter.unusedSimpArgs false
namespace Go.S
open Go.Sx Go.Proofs

theorem find25 {d : DB} {h : Heap} {b1 b2 b3 b4 : Option Addr} {n1 c1 n2 c2 n3 c3 n4 c4 : Nat} (q : RP h b1 n1 c1 b2 n2 c2 b3 n3 c3 b4 n4 c4 d) {nm : ByteArray} :
    Ct 25 [.agg #[.slice b1 n1 c1, .slice b2 n2 c2, .slice b3 n3 c3, .slice b4 n4 c4], .string nm] h (fun v h' => Le h h' ∧ ∃ z, v = .int .i64 z ∧ IdxR d.tabs (fun t => decide (t.S.name = nm)) z) := by
  obtain ⟨A, hA⟩ := Ar.ex
  have hlen := q.tabs.len
  have hbd := q.tabs.bound
  refine fn_of_sx A (tabOk T25.plan T25.pub) Tryz.func25 rfl (by kernel_rfl) ?_
  cbv
  refine LoopX.go (G := Int) (fun z => [(5, .v (.int .i64 z))]) (fun _ => [(2, [.slice b1 n1 c1, .slice b2 n2 c2, .slice b3 n3 c3, .slice b4 n4 c4])]) (fun m z h' => ∃ i : Nat, IsN z i ∧ m = n1 - i ∧ i ≤ n1 ∧ h' = h ∧ ∀ j, j < i → ∀ y, d.tabs[j]? = some y → decide (y.S.name = nm) = false) n1 0 ⟨?_, ?_, ?_⟩ ⟨0, ⟨rfl⟩, by omega, by omega, rfl, fun j hj => (by omega)⟩ ?_
  · cbv
  · cbv
  · cbv
  · intro m z h' hI
    cbv
    obtain ⟨i, hz, hm, hi, rfl, hall⟩ := hI
    refine bsel_mk (fun hc => ?_) (fun hc => ?_)
    · have hlt := hz.lt hc
      clear hc
      cbv
      obtain ⟨x, hx⟩ := get_ex (xs := d.tabs) (i := i) (by omega)
      refine ⟨⟨q.tabs.isSm (by omega), hz.ix hlt⟩, ?_⟩
      cbv
      refine q.tabs.loadFF hx hz.eq (o1 := 0) (o2 := 0) (m := 1) (by decide) (fun cs hcs => ?_)
      obtain ⟨_, _, _, _, _, _, rfl, -, -⟩ := hcs
      cbv
      rw [scm_eql A]
      by_cases hxs : x.S.name = nm
      · rw [decide_eq_true hxs]
        have hR : IdxR d.tabs (fun t => decide (t.S.name = nm)) z := ⟨.inr ⟨i, x, hz, hx, by simpa using hxs, hall⟩⟩
        cbv
        exact ⟨Le.refl _, z, rfl, hR⟩
      · rw [decide_eq_false hxs]
        cbv
        refine ⟨n1 - (i + 1), _, by omega, ⟨?_, ?_, ?_⟩, i + 1, hz.succ (A := A) (by omega), rfl, by omega, rfl, ?_⟩
        · cbv
        · cbv
        · cbv
        · intro j hj y hy
          rcases Nat.lt_or_ge j i with hji | hji
          · exact hall j hji y hy
          · have : j = i := by omega
            subst this
            rw [hx] at hy; cases hy
            exact decide_eq_false hxs
    · have hge := hz.ge hc
      have hR : IdxR d.tabs (fun t => decide (t.S.name = nm)) (-1) := ⟨.inl ⟨rfl, fun x hx => by
        obtain ⟨j, hj⟩ := List.getElem?_of_mem hx
        have := (List.getElem?_eq_some_iff.1 hj).1
        exact hall j (by omega) x hj⟩⟩
      cbv
      exact ⟨Le.refl _, -1, rfl, hR⟩

theorem idx_any {α : Type} {xs : List α} {p : α → Bool} {z : Int} (q : IdxR xs p z) : decide (z ≥ 0) = xs.any p := by
  rcases q.out with ⟨rfl, h⟩ | ⟨i, x, hz, hx, hp, -⟩
  · rw [eq_comm]; simpa using h
  · have := hz.eq
    rw [decide_eq_true (by omega), eq_comm, List.any_eq_true]
    exact ⟨x, List.mem_of_getElem? hx, hp⟩

def refPos (T : List Tbl) (nm : ByteArray) : Nat := (T.takeWhile fun t => decide (cmpB t.S.name nm < 0)).length
def refCreate (d : DB) (s : Sch) : DB × Int :=
  if decide (schErr s ≠ 0) = true then (d, schErr s)
  else if d.tabs.any (fun t => decide (t.S.name = s.name)) = true then (d, 7)
  else if decide ((d.tabs.length : Int) ≥ 8) = true then (d, 4)
  else if decide ((d.works.length : Int) > 0) = true then (d, 18)
  else (setTabs d (d.tabs.take (refPos d.tabs s.name) ++ [⟨s, []⟩] ++ d.tabs.drop (refPos d.tabs s.name)), 0)

abbrev RK (h : Heap) (d' : DB) (e : Int) (k : Value → Heap → Prop) : Prop :=
  ∀ h' b1 n1 c1 b2 n2 c2 b3 n3 c3 b4 n4 c4, Le h h' → RP h' b1 n1 c1 b2 n2 c2 b3 n3 c3 b4 n4 c4 d' → k (.tuple #[.agg #[.slice b1 n1 c1, .slice b2 n2 c2, .slice b3 n3 c3, .slice b4 n4 c4], .int .i64 e]) h'

theorem tw_hit {α : Type} {p : α → Bool} : ∀ {xs : List α} {i : Nat}, (∀ j, j < i → ∀ y, xs[j]? = some y → p y = true) → i ≤ xs.length → (i < xs.length → ∃ y, xs[i]? = some y ∧ p y = false) → (xs.takeWhile p).length = i
  | [], i, _, hi, _ => by simp at hi; simp [hi]
  | x :: r, 0, _, _, hs => by
    obtain ⟨y, hy, hp⟩ := hs (by simp)
    simp at hy; subst hy
    simp [hp]
  | x :: r, i + 1, hall, hi, hs => by
    have hx := hall 0 (by omega) x rfl
    rw [List.takeWhile_cons_of_pos hx, List.length_cons]
    rw [tw_hit (xs := r) (i := i) (fun j hj y hy => hall (j + 1) (by omega) y (by simpa using hy)) (by simpa using hi) (fun h => by simpa using hs (by simpa using h))]

theorem rcreate52 {d : DB} {h : Heap} {b1 b2 b3 b4 : Option Addr} {n1 c1 n2 c2 n3 c3 n4 c4 : Nat} (q : RP h b1 n1 c1 b2 n2 c2 b3 n3 c3 b4 n4 c4 d) {nm : ByteArray} {cols : List Col} {key : Int} {only : Bool} {sb : Option Addr} {sn sc : Nat} (qs : Sl 104 shCol h (.slice sb sn sc) cols)
    (hl : d.tabs.length ≤ 2 ^ 37) (hns : ∀ t ∈ d.tabs, t.S.name.size ≤ 2 ^ 60) {D : DB × Int} (hD : refCreate d ⟨nm, cols, key, only⟩ = D) {k : Value → Heap → Prop} (hk : RK h D.1 D.2 k) :
    Ct 52 [.agg #[.slice b1 n1 c1, .slice b2 n2 c2, .slice b3 n3 c3, .slice b4 n4 c4], .agg #[.string nm, .slice sb sn sc, .int .i64 key, .bool only]] h k := by
  obtain ⟨A, hA⟩ := Ar.ex
  have hlen := q.tabs.len
  have hbd := q.tabs.bound
  have hwl := q.works.len
  unfold refCreate at hD
  generalize e8 : A .icm .geq (A .nat n1) 8 = u8
  generalize e18 : A .icm .gtr (A .nat n2) 0 = u18
  have f8 := e8
  have f18 := e18
  rw [icm_geq A, hA.nat] at e8
  rw [icm_gtr A, hA.nat] at e18
  simp only [Int.ofNat_eq_natCast] at e8 e18
  rw [hlen] at e8
  rw [hwl] at e18
  rw [e8, e18] at hD
  refine fn_of_sx A (tabOk T52.plan T52.pub) Tryz.func52 rfl (by kernel_rfl) ?_
  cbv
  refine (check113 (nm := nm) (key := key) (only := only) qs).mono (fun v h1 hR => ?_)
  obtain ⟨l1, ze, hv, eze⟩ := hR
  rw [hv]
  rw [← eze] at hD
  generalize e0 : A .icm .neq ze 0 = u0
  have f0 := e0
  rw [icm_neq A] at e0
  rw [e0] at hD
  cbv
  rw [f0]
  cases u0 with
  | true =>
    have hD : (d, ze) = D := hD
    have hfin := hk h1 b1 n1 c1 b2 n2 c2 b3 n3 c3 b4 n4 c4 l1 (by rw [← hD]; exact q.mono l1)
    rw [← hD] at hfin
    cbv
    exact hfin
  | false =>
    cbv
    refine (find25 (q.mono l1)).mono (fun v h2 hR => ?_)
    obtain ⟨l2, zf, hv, hidx⟩ := hR
    rw [hv]
    have l12 := l1.trans l2
    have hany := idx_any hidx
    generalize e7 : A .icm .geq zf 0 = u7
    have f7 := e7
    rw [icm_geq A] at e7
    rw [e7] at hany
    have hD : (if d.tabs.any (fun t => decide (t.S.name = nm)) = true then (d, 7) else if u8 = true then (d, 4) else if u18 = true then (d, 18)
      else (setTabs d (d.tabs.take (refPos d.tabs nm) ++ [⟨⟨nm, cols, key, only⟩, []⟩] ++ d.tabs.drop (refPos d.tabs nm)), 0)) = D := hD
    rw [← hany] at hD
    cbv
    rw [f7]
    cases u7 with
    | true =>
      have hD : (d, 7) = D := hD
      have hfin := hk h2 b1 n1 c1 b2 n2 c2 b3 n3 c3 b4 n4 c4 l12 (by rw [← hD]; exact q.mono l12)
      rw [← hD] at hfin
      cbv
      exact hfin
    | false =>
      cbv
      rw [f8]
      cases u8 with
      | true =>
        have hD : (d, 4) = D := hD
        have hfin := hk h2 b1 n1 c1 b2 n2 c2 b3 n3 c3 b4 n4 c4 l12 (by rw [← hD]; exact q.mono l12)
        rw [← hD] at hfin
        cbv
        exact hfin
      | false =>
        cbv
        rw [f18]
        cases u18 with
        | true =>
          have hD : (d, 18) = D := hD
          have hfin := hk h2 b1 n1 c1 b2 n2 c2 b3 n3 c3 b4 n4 c4 l12 (by rw [← hD]; exact q.mono l12)
          rw [← hD] at hfin
          cbv
          exact hfin
        | false =>
          have hD : (setTabs d (d.tabs.take (refPos d.tabs nm) ++ [⟨⟨nm, cols, key, only⟩, []⟩] ++ d.tabs.drop (refPos d.tabs nm)), 0) = D := hD
          cbv
          refine LoopX.go (G := Int) (fun z => [(7, .v (.int .i64 z))]) (fun _ => [(2, [.slice b1 n1 c1, .slice b2 n2 c2, .slice b3 n3 c3, .slice b4 n4 c4]), (3, [.string nm, .slice sb sn sc, .int .i64 key, .bool only]), (4, [.slice none 0 0, .slice none 0 0, .slice none 0 0, .slice none 0 0])])
            (fun m z h' => ∃ i : Nat, IsN z i ∧ m = n1 - i ∧ i ≤ n1 ∧ Le h h' ∧ ∀ j, j < i → ∀ y, d.tabs[j]? = some y → decide (cmpB y.S.name nm < 0) = true) n1 0 ⟨?_, ?_, ?_⟩ ⟨0, ⟨rfl⟩, by omega, by omega, l12, fun j hj => (by omega)⟩ ?_
          · cbv
          · cbv
          · cbv
          · intro m z h' hI
            cbv
            obtain ⟨i, hz, hm, hi, hle, hall⟩ := hI
            have g1 : A .icm .lss z (A .nat n1) = decide (i < n1) := hz.lt2 (IsN.nat n1)
            rw [g1]
            rcases Nat.lt_or_ge i n1 with hlt | hge
            · rw [decide_eq_true hlt]
              have hix := hz.ix hlt
              obtain ⟨x, hx⟩ := get_ex (xs := d.tabs) (i := i) (by omega)
              have qh := q.mono hle
              cbv
              refine ⟨⟨qh.tabs.isSm (by omega), hix⟩, ?_⟩
              cbv
              refine qh.tabs.loadFF hx hz.eq (o1 := 0) (o2 := 0) (m := 1) (by decide) (fun cs hcs => ?_)
              obtain ⟨_, _, _, _, _, _, rfl, -, -⟩ := hcs
              cbv
              refine (below114 (hns x (List.mem_of_getElem? hx))).mono (fun v h3 hR => ?_)
              obtain ⟨l3, t, hv, ht⟩ := hR
              rw [hv]
              have hl3 := hle.trans l3
              cbv
              cases t with
              | true =>
                cbv
                refine ⟨n1 - (i + 1), _, by omega, ⟨?_, ?_, ?_⟩, i + 1, hz.succ (A := A) (by omega), rfl, by omega, hl3, ?_⟩
                · cbv
                · cbv
                · cbv
                · intro j hj y hy
                  rcases Nat.lt_or_ge j i with hji | hji
                  · exact hall j hji y hy
                  · have : j = i := by omega
                    subst this
                    rw [hx] at hy; cases hy
                    exact ht.symm
              | false =>
                have hpos : refPos d.tabs nm = i := tw_hit hall (by omega) (fun _ => ⟨x, hx, ht.symm⟩)
                have qa := q.mono hl3
                have hdz : A .dif z 0 = i := dif_z0 (A := A) hz
                obtain ⟨hcb1, hcb2⟩ := hbd
                have hzi : 0 ≤ z ∧ z ≤ (c1 : Int) := by have := hz.eq; omega
                have hzn : 0 ≤ z ∧ z ≤ (n1 : Int) := by have := hz.eq; omega
                have him : i ≤ n1 := hi
                cbv
                intro n6 h6 g6 e6
                have l6 : Le h3 h6 := by rw [e6]; exact Le.set g6
                have q6 := qa.mono l6
                cbv
                refine ⟨hzi, ?_⟩
                cbv
                have hnil : Buf 100 shTbl h3 h6 (.slice (some ⟨n6, 0, none⟩) 0 0) ([] : List Tbl) := Buf.nil
                refine hnil.append (q6.tabs.takeM (A := A) (s := shTbl) (z := A .nat c1) him hdz hdz) (by decide) rfl (by decide) (by rw [hdz]; omega) l6 (fun m7 b7 c7 h7 em7 l7 t7 k7 hb7 => ?_)
                cbv
                intro n8 h8 g8 e8
                have l8 : Le h7 h8 := by rw [e8]; exact Le.set g8
                have f8 := (congrFun e8 n8).trans hset_self
                have r8 : shTbl.R h8 [.string nm, .slice sb sn sc, .int .i64 key, .bool only, .slice none 0 0] ⟨⟨nm, cols, key, only⟩, []⟩ := ⟨_, _, _, _, _, _, rfl, qs.mono ((hl3.trans (l7.trans l8)).t _), Sl.nil⟩
                have v8 := one_sl (s := shTbl) f8 r8
                cbv
                refine (hb7.mono (l8.t _)).append v8 (by decide) rfl (by decide) (by omega) (l7.trans l8) (fun m9 b9 c9 h9 em9 l9 t9 k9 hb9 => ?_)
                have q9 := qa.mono l9
                have hdn := dif_nz (A := A) hz (n := n1)
                cbv
                refine ⟨hzn, ?_⟩
                cbv
                refine hb9.append (q9.tabs.dropX (A := A) (s := shTbl) hz him hdn (c' := c1 - i) rfl) (by decide) rfl (by decide) (by rw [hdn]; omega) l9 (fun m10 b10 c10 h10 em10 l10 t10 k10 hb10 => ?_)
                have hs10 := hb10.sl
                rw [List.nil_append] at hs10
                rw [hpos] at hD
                have q10 := qa.mono l10
                have hL := hl3.trans l10
                have hfin := hk h10 b10 m10 c10 b2 n2 c2 b3 n3 c3 b4 n4 c4 hL (by rw [← hD]; exact ⟨hs10, q10.works, q10.holds, q10.waits⟩)
                rw [← hD] at hfin
                cbv
                exact hfin
            · rw [decide_eq_false (by omega)]
              have hpos : refPos d.tabs nm = i := tw_hit hall (by omega) (fun h => by omega)
              have qa := q.mono hle
              have hdz : A .dif z 0 = i := dif_z0 (A := A) hz
              obtain ⟨hcb1, hcb2⟩ := hbd
              have hzi : 0 ≤ z ∧ z ≤ (c1 : Int) := by have := hz.eq; omega
              have hzn : 0 ≤ z ∧ z ≤ (n1 : Int) := by have := hz.eq; omega
              have him : i ≤ n1 := hi
              cbv
              intro n6 h6 g6 e6
              have l6 : Le h' h6 := by rw [e6]; exact Le.set g6
              have q6 := qa.mono l6
              cbv
              refine ⟨hzi, ?_⟩
              cbv
              have hnil : Buf 100 shTbl h' h6 (.slice (some ⟨n6, 0, none⟩) 0 0) ([] : List Tbl) := Buf.nil
              refine hnil.append (q6.tabs.takeM (A := A) (s := shTbl) (z := A .nat c1) him hdz hdz) (by decide) rfl (by decide) (by rw [hdz]; omega) l6 (fun m7 b7 c7 h7 em7 l7 t7 k7 hb7 => ?_)
              cbv
              intro n8 h8 g8 e8
              have l8 : Le h7 h8 := by rw [e8]; exact Le.set g8
              have f8 := (congrFun e8 n8).trans hset_self
              have r8 : shTbl.R h8 [.string nm, .slice sb sn sc, .int .i64 key, .bool only, .slice none 0 0] ⟨⟨nm, cols, key, only⟩, []⟩ := ⟨_, _, _, _, _, _, rfl, qs.mono ((hle.trans (l7.trans l8)).t _), Sl.nil⟩
              have v8 := one_sl (s := shTbl) f8 r8
              cbv
              refine (hb7.mono (l8.t _)).append v8 (by decide) rfl (by decide) (by omega) (l7.trans l8) (fun m9 b9 c9 h9 em9 l9 t9 k9 hb9 => ?_)
              have q9 := qa.mono l9
              have hdn := dif_nz (A := A) hz (n := n1)
              cbv
              refine ⟨hzn, ?_⟩
              cbv
              refine hb9.append (q9.tabs.dropX (A := A) (s := shTbl) hz him hdn (c' := c1 - i) rfl) (by decide) rfl (by decide) (by rw [hdn]; omega) l9 (fun m10 b10 c10 h10 em10 l10 t10 k10 hb10 => ?_)
              have hs10 := hb10.sl
              rw [List.nil_append] at hs10
              rw [hpos] at hD
              have q10 := qa.mono l10
              have hL := hle.trans l10
              have hfin := hk h10 b10 m10 c10 b2 n2 c2 b3 n3 c3 b4 n4 c4 hL (by rw [← hD]; exact ⟨hs10, q10.works, q10.holds, q10.waits⟩)
              rw [← hD] at hfin
              cbv
              exact hfin
end Go.S

set_option maxRecDepth 100000
set_option maxHeartbeats 8000000
set_option linter.unusedVariables false
set_option linter.unusedSimpArgs false
namespace Go.S
open Go.Sx Go.Proofs

def startD : Nat → DB
  | 0 => ⟨[], [], [], []⟩
  | i + 1 => (createD (startD i) (shapeS i)).1
def startR : Nat → DB
  | 0 => ⟨[], [], [], []⟩
  | i + 1 => (refCreate (startR i) (shapeS i)).1
def tblS (i : Nat) : Tbl := ⟨shapeS i, []⟩
def startE : DB := ⟨[tblS 0, tblS 1, tblS 2], [], [], []⟩

theorem startD1 : startD 1 = ⟨[tblS 0], [], [], []⟩ := by cbv
theorem startD2 : startD 2 = ⟨[tblS 0, tblS 1], [], [], []⟩ := by cbv
theorem startD3 : startD 3 = startE := by cbv
theorem startR1 : startR 1 = ⟨[tblS 0], [], [], []⟩ := by cbv
theorem startR2 : startR 2 = ⟨[tblS 0, tblS 1], [], [], []⟩ := by cbv
theorem startR3 : startR 3 = startE := by cbv

theorem startD_small : ∀ i, i ≤ 3 → Small (startD i)
  | 0, _ => ⟨by decide, by decide, by simp [startD], by decide, by decide⟩
  | 1, _ => by rw [startD1]; exact ⟨by simp, by simp, by simp [tblS], by simp, by simp⟩
  | 2, _ => by rw [startD2]; exact ⟨by simp, by simp, by simp [tblS], by simp, by simp⟩
  | 3, _ => by rw [startD3]; exact ⟨by simp [startE], by simp [startE], by simp [startE, tblS], by simp [startE], by simp [startE]⟩
  | n + 4, h => by omega
theorem tblS_size : ∀ i, i < 3 → (tblS i).S.name.size ≤ 2 ^ 60
  | 0, _ => by decide
  | 1, _ => by decide
  | 2, _ => by decide
  | n + 3, h => by omega
theorem startR_small : ∀ i, i ≤ 3 → (startR i).tabs.length ≤ 2 ^ 37 ∧ ∀ t ∈ (startR i).tabs, t.S.name.size ≤ 2 ^ 60
  | 0, _ => by simp [startR]
  | 1, _ => by rw [startR1]; simp [tblS_size 0]
  | 2, _ => by rw [startR2]; simp [tblS_size 0, tblS_size 1]
  | 3, _ => by rw [startR3]; simp [startE, tblS_size 0, tblS_size 1, tblS_size 2]
  | n + 4, h => by omega

structure W12 where
  b1 : Option Addr
  n1 : Nat
  c1 : Nat
  b2 : Option Addr
  n2 : Nat
  c2 : Nat
  b3 : Option Addr
  n3 : Nat
  c3 : Nat
  b4 : Option Addr
  n4 : Nat
  c4 : Nat

theorem start19 {h : Heap} {k : Value → Heap → Prop} (hk : ∀ h' b1 n1 c1 b2 n2 c2 b3 n3 c3 b4 n4 c4 d1 m1 e1 d2 m2 e2 d3 m3 e3 d4 m4 e4, Le h h' →
      RDB h' (.agg #[.slice b1 n1 c1, .slice b2 n2 c2, .slice b3 n3 c3, .slice b4 n4 c4]) startE → RP h' d1 m1 e1 d2 m2 e2 d3 m3 e3 d4 m4 e4 startE →
      k (.tuple #[.agg #[.slice b1 n1 c1, .slice b2 n2 c2, .slice b3 n3 c3, .slice b4 n4 c4], .agg #[.slice d1 m1 e1, .slice d2 m2 e2, .slice d3 m3 e3, .slice d4 m4 e4]]) h') :
    Ct 19 [] h k := by
  obtain ⟨A, hA⟩ := Ar.ex
  refine fn_of_sx A (tabOk T19.plan T19.pub) Tryz.func19 rfl (by kernel_rfl) ?_
  cbv
  refine LoopX.go (G := Int × W12 × W12) (fun g => [(4, .v (.int .i64 g.1))]) (fun g => [(0, [.slice none 0 0, .slice none 0 0, .slice none 0 0, .slice none 0 0]), (1, [.slice none 0 0, .slice none 0 0, .slice none 0 0, .slice none 0 0]), (2, [.slice g.2.1.b1 g.2.1.n1 g.2.1.c1, .slice g.2.1.b2 g.2.1.n2 g.2.1.c2, .slice g.2.1.b3 g.2.1.n3 g.2.1.c3, .slice g.2.1.b4 g.2.1.n4 g.2.1.c4]), (3, [.slice g.2.2.b1 g.2.2.n1 g.2.2.c1, .slice g.2.2.b2 g.2.2.n2 g.2.2.c2, .slice g.2.2.b3 g.2.2.n3 g.2.2.c3, .slice g.2.2.b4 g.2.2.n4 g.2.2.c4])])
    (fun m g h' => ∃ i, IsN g.1 i ∧ m = 3 - i ∧ i ≤ 3 ∧ Le h h' ∧ RDB h' (.agg #[.slice g.2.1.b1 g.2.1.n1 g.2.1.c1, .slice g.2.1.b2 g.2.1.n2 g.2.1.c2, .slice g.2.1.b3 g.2.1.n3 g.2.1.c3, .slice g.2.1.b4 g.2.1.n4 g.2.1.c4]) (startD i) ∧ RP h' g.2.2.b1 g.2.2.n1 g.2.2.c1 g.2.2.b2 g.2.2.n2 g.2.2.c2 g.2.2.b3 g.2.2.n3 g.2.2.c3 g.2.2.b4 g.2.2.n4 g.2.2.c4 (startR i)) 3
    (0, ⟨none, 0, 0, none, 0, 0, none, 0, 0, none, 0, 0⟩, ⟨none, 0, 0, none, 0, 0, none, 0, 0, none, 0, 0⟩) ⟨?_, ?_, ?_⟩ ⟨0, ⟨rfl⟩, by omega, by omega, Le.refl _, rdb0 h, ⟨Sl.nil, Sl.nil, Sl.nil, Sl.nil⟩⟩ ?_
  · cbv
  · cbv
  · cbv
  · intro m g h' hI
    cbv
    obtain ⟨i, hz, hm, hi3, hle, qD, qR⟩ := hI
    obtain ⟨z, ⟨b1, n1, c1, b2, n2, c2, b3, n3, c3, b4, n4, c4⟩, ⟨d1, m1, e1, d2, m2, e2, d3, m3, e3, d4, m4, e4⟩⟩ := g
    have hz : IsN z i := hz
    have qD : RDB h' (.agg #[.slice b1 n1 c1, .slice b2 n2 c2, .slice b3 n3 c3, .slice b4 n4 c4]) (startD i) := qD
    have qR : RP h' d1 m1 e1 d2 m2 e2 d3 m3 e3 d4 m4 e4 (startR i) := qR
    refine bsel_mk (fun hc => ?_) (fun hc => ?_)
    · have hlt : i < 3 := by
        rw [icm_lss A, decide_eq_true_eq] at hc
        have hc : z < 3 := hc
        have := hz.eq
        omega
      clear hc
      cbv
      refine shape16 hz hlt h' (fun h2 sb sn sc nm o l2 hnm ho qs => ?_)
      obtain ⟨D, hDD⟩ : ∃ D, D = createD (startD i) (shapeS i) := ⟨_, rfl⟩
      have hD : createD (startD i) ⟨nm, shColsE, 0, o⟩ = D := by rw [hnm, ho, hDD]; rfl
      have hD1 : D.1 = startD (i + 1) := by rw [hDD]; rfl
      clear hDD
      obtain ⟨R, hRR⟩ : ∃ R, R = refCreate (startR i) (shapeS i) := ⟨_, rfl⟩
      have hR1 : R.1 = startR (i + 1) := by rw [hRR]; rfl
      obtain ⟨T, hT⟩ : ∃ T, T = startD (i + 1) := ⟨_, rfl⟩
      obtain ⟨U, hU⟩ : ∃ U, U = startR (i + 1) := ⟨_, rfl⟩
      rw [← hT] at hD1
      rw [← hU] at hR1
      cbv
      refine create17K (qD.mono l2) (nm := nm) (key := 0) (only := o) qs (startD_small i hi3) hD (fun h3 f1 p1 g1 f2 p2 g2 f3 p3 g3 f4 p4 g4 l3 qD3 => ?_)
      cbv
      refine shape16 hz hlt h3 (fun h4 sb4 sn4 sc4 nm4 o4 l4 hnm4 ho4 qs4 => ?_)
      have hR : refCreate (startR i) ⟨nm4, shColsE, 0, o4⟩ = R := by rw [hnm4, ho4, hRR]; rfl
      have l14 := (l2.trans l3).trans l4
      cbv
      refine rcreate52 (qR.mono l14) (nm := nm4) (key := 0) (only := o4) qs4 (startR_small i hi3).1 (startR_small i hi3).2 hR (fun h5 r1 s1 t1 r2 s2 t2 r3 s3 t3 r4 s4 t4 l5 qR5 => ?_)
      cbv
      refine ⟨3 - (i + 1), (_, ⟨f1, p1, g1, f2, p2, g2, f3, p3, g3, f4, p4, g4⟩, ⟨r1, s1, t1, r2, s2, t2, r3, s3, t3, r4, s4, t4⟩), by omega, ⟨?_, ?_, ?_⟩, i + 1, hz.succ (A := A) (by omega), rfl, by omega, hle.trans (l14.trans l5), by rw [← hT, ← hD1]; exact qD3.mono (l4.trans l5), by rw [← hU, ← hR1]; exact qR5⟩
      · cbv
      · cbv
      · cbv
    · have hge : i = 3 := by
        rw [icm_lss A, decide_eq_false_iff_not] at hc
        have hc : ¬ z < 3 := hc
        have := hz.eq
        omega
      clear hc
      subst hge
      rw [startD3] at qD
      rw [startR3] at qR
      have hfin := hk _ _ _ _ _ _ _ _ _ _ _ _ _ _ _ _ _ _ _ _ _ _ _ _ _ hle qD qR
      cbv
      refine ⟨⟨_, rfl, rfl⟩, ?_⟩
      cbv
      exact hfin
end Go.S

set_option maxRecDepth 100000
set_option maxHeartbeats 8000000
set_option linter.unusedVariables false
set_option linter.unusedSimpArgs false
namespace Go.S
open Go.Sx Go.Proofs

end Go.S

set_option maxRecDepth 100000
set_option maxHeartbeats 8000000
set_option linter.unusedVariables false
set_option linter.unusedSimpArgs false
namespace Go.S
open Go.Sx Go.Proofs

theorem within54 (a : Int) (n : Nat) (hn : 0 < n) (hn2 : n ≤ 2 ^ 40) (h : Heap) {k : Value → Heap → Prop} (hk : ∀ z i, IsN z i → i = (a % (n : Int)).toNat → i < n → k (.int .i64 z) h) : Ct 54 [.int .i64 a, .int .i64 (n : Int)] h k := by
  obtain ⟨A, hA⟩ := Ar.ex
  obtain ⟨m, hm⟩ : ∃ m : Int, m = (n : Int) := ⟨_, rfl⟩
  rw [← hm]
  have hm0 : m ≠ 0 := by omega
  have hrem : A .ari .rem .i64 a m = a.tmod m := by rw [hA.ari]; rfl
  have hb1 : a.tmod m < m := by have := Int.tmod_lt_of_pos a (show 0 < m by omega); omega
  have hb2 : -m < a.tmod m := by
    have := Int.lt_tmod_of_pos a (show 0 < m by omega); omega
  have hemod : a % m = if a.tmod m < 0 then a.tmod m + m else a.tmod m := by
    rw [Int.tmod_eq_emod]
    have h1 := Int.emod_nonneg a hm0
    have h2 := Int.emod_lt_of_pos a (show 0 < m by omega)
    by_cases hc : 0 ≤ a ∨ m ∣ a
    · rw [if_pos hc]
      rw [if_neg (by omega)]; omega
    · rw [if_neg hc]
      have : (m.natAbs : Int) = m := by omega
      rw [this, if_pos (by omega)]; omega
  generalize ht : a.tmod m = t at *
  generalize eu : A .icm .lss t 0 = u
  have fu := eu
  rw [icm_lss A] at eu
  have key : ∀ z : Int, z = a % m → k (.int .i64 z) h := fun z hz => by
    have h1 := Int.emod_nonneg a hm0
    have h2 := Int.emod_lt_of_pos a (show 0 < m by omega)
    refine hk z (a % (n : Int)).toNat ⟨?_⟩ rfl ?_
    · rw [← hm]; omega
    · rw [← hm]; omega
  have hadd : t < 0 → A .ari .add .i64 t m = t + m := fun h => by
    rw [hA.ari]; simp only [ari]
    rw [IntWalk.i64_in _ (by omega)]
  refine fn_of_sx A (tabOk T54.plan T54.pub) Tryz.func54 rfl (by kernel_rfl) ?_
  cbv
  refine ⟨hm0, ?_⟩
  cbv
  rw [hrem]
  rw [fu]
  cases u with
  | true =>
    have hneg := of_decide_eq_true eu
    have hk2 := key (t + m) (by rw [hemod, if_pos hneg])
    cbv
    rw [hadd hneg]
    exact hk2
  | false =>
    have hneg := of_decide_eq_false eu
    have hk2 := key t (by rw [hemod, if_neg hneg])
    cbv
    exact hk2
end Go.S

set_option maxRecDepth 100000
set_option maxHeartbeats 8000000
set_option linter.unusedVariables false
set_option linter.unusedSimpArgs false
namespace Go.S
open Go.Sx Go.Proofs

theorem within54' (a : Int) (m : Int) {n : Nat} (hm : m = (n : Int)) (hn : 0 < n) (hn2 : n ≤ 2 ^ 40) (h : Heap) {k : Value → Heap → Prop} (hk : ∀ z i, IsN z i → i = (a % (n : Int)).toNat → i < n → k (.int .i64 z) h) : Ct 54 [.int .i64 a, .int .i64 m] h k := by
  subst hm; exact within54 a n hn hn2 h hk

def noS : ByteArray := ⟨#[]⟩
def fitK (i : Nat) (a : Int) : Int := (a.tdiv (1 + 3 * (i : Int))) % 40 - 5
def fitAbc : ByteArray := ⟨#[97, 98, 99, 100, 101, 102, 103, 104, 105, 106, 107, 108, 109, 110, 111, 112, 113, 114, 115, 116, 117, 118, 119, 120, 121, 122]⟩
def fitV (c : Col) (i : Nat) (a : Int) : Val :=
  if c.null = true ∧ a % 5 = 0 then ⟨0, 0, noS⟩ else if c.kind = 1 then ⟨c.kind, fitK i a % 2, noS⟩ else if c.kind = 2 then ⟨c.kind, fitK i a, noS⟩ else if c.kind = 3 then ⟨c.kind, 0, fitAbc.extract 0 (fitK i a % 9).toNat⟩ else ⟨c.kind, 0, noS⟩
def fitL (cols : List Col) (a : Int) (m : Nat) : List Val := (List.range m).map fun i => fitV (cols.getD i ⟨noS, 0, false⟩) i a
theorem fitL_succ {cols : List Col} {a : Int} {i : Nat} {x : Col} (hx : cols[i]? = some x) : fitL cols a (i + 1) = fitL cols a i ++ [fitV x i a] := by
  unfold fitL
  rw [List.range_succ, List.map_append]
  simp [hx]

theorem fit22 {cols : List Col} {h : Heap} {nm : ByteArray} {sb : Option Addr} {sn sc : Nat} {key : Int} {only : Bool} (q : Sl 104 shCol h (.slice sb sn sc) cols) (hl : cols.length ≤ 2 ^ 20) (a : Int) (ha : -2 ^ 63 ≤ a ∧ a < 2 ^ 63) {k : Value → Heap → Prop} (hk : ∀ h' b n c, Le h h' → Buf 68 shVal h h' (.slice b n c) (fitL cols a cols.length) → k (.slice b n c) h') :
    Ct 22 [.agg #[.string nm, .slice sb sn sc, .int .i64 key, .bool only], .int .i64 a] h k := by
  obtain ⟨A, hA⟩ := Ar.ex
  have hlen := q.len
  refine fn_of_sx A (tabOk T22.plan T22.pub) Tryz.func22 rfl (by kernel_rfl) ?_
  cbv
  refine LoopX.go (G := Int × Option Addr × Nat × Nat) (fun g => [(6, .v (.int .i64 g.1)), (5, .v (.slice g.2.1 g.2.2.1 g.2.2.2))]) (fun _ => [(2, [.string nm, .slice sb sn sc, .int .i64 key, .bool only])])
    (fun m g h' => ∃ i, IsN g.1 i ∧ m = sn - i ∧ i ≤ sn ∧ Le h h' ∧ Buf 68 shVal h h' (.slice g.2.1 g.2.2.1 g.2.2.2) (fitL cols a i)) sn (0, none, 0, 0) ⟨?_, ?_, ?_⟩ ⟨0, ⟨rfl⟩, by omega, by omega, Le.refl _, Buf.nil⟩ ?_
  · cbv
  · cbv
  · cbv
  · intro m g h' hI
    cbv
    obtain ⟨i, hz, hm, hi, hle, hb⟩ := hI
    obtain ⟨z, b5, n5, c5⟩ := g
    have hz : IsN z i := hz
    have hb : Buf 68 shVal h h' (.slice b5 n5 c5) (fitL cols a i) := hb
    obtain ⟨B, hB⟩ : ∃ B, B = fitL cols a i := ⟨_, rfl⟩
    rw [← hB] at hb
    have hBl : B.length = i := by rw [hB]; unfold fitL; simp
    have hn5 : n5 = i := by have := hb.sl.len; omega
    refine bsel_mk (fun hc => ?_) (fun hc => ?_)
    · have hlt := hz.lt hc
      clear hc
      have hze := hz.eq
      have hbd := q.bound.1
      have hix := hz.ix hlt
      obtain ⟨⟨xn, xk, xb⟩, hx⟩ := get_ex (xs := cols) (i := i) (by omega)
      have hw1 : A .ari .add .i64 1 (A .ari .mul .i64 3 z) = 1 + 3 * (i : Int) := by
        rw [hA.ari]; simp only [ari]
        rw [IntWalk.i64_in (3 * z) (by omega), IntWalk.i64_in _ (by omega)]
        omega
      have hwn : ¬ A .ari .add .i64 1 (A .ari .mul .i64 3 z) = 0 := by rw [hw1]; omega
      have hqu : A .ari .quo .i64 a (A .ari .add .i64 1 (A .ari .mul .i64 3 z)) = a.tdiv (1 + 3 * (i : Int)) := by
        rw [hw1, hA.ari]; simp only [ari]
        have hdd : (1 : Int) + 3 * (i : Int) > 0 := by omega
        generalize (1 : Int) + 3 * (i : Int) = dd at hdd
        have hpo : ∀ b : Int, 0 ≤ b → 0 ≤ b.tdiv dd ∧ b.tdiv dd ≤ b := fun b hb0 => by
          rw [Int.tdiv_eq_ediv_of_nonneg hb0]
          exact ⟨Int.ediv_nonneg hb0 (by omega), Int.ediv_le_self _ hb0⟩
        by_cases h0 : 0 ≤ a
        · have := hpo a h0
          rw [IntWalk.i64_in _ (by omega)]
        · have := hpo (-a) (by omega)
          rw [Int.neg_tdiv] at this
          rw [IntWalk.i64_in _ (by omega)]
      have hqh := q.mono (hle.t _)
      cbv
      refine ⟨hwn, ?_⟩
      cbv
      refine within54' _ 40 (n := 40) rfl (by decide) (by decide) h' (fun z1 j1 hz1 hj1 hj1l => ?_)
      cbv
      refine ⟨⟨hqh.isSm (by omega), hix⟩, ?_⟩
      cbv
      refine hqh.loadF hx hz.eq (o := 1) (m := 1) (by decide) (fun cs hcs => ?_)
      have hcs : cs = [.string xn, .int .i64 xk, .bool xb] := hcs
      subst hcs
      cbv
      have hkk : ∀ z1 : Int, IsN z1 ((A .ari .quo .i64 a (A .ari .add .i64 1 (A .ari .mul .i64 3 z)) % ((40 : Nat) : Int)).toNat) → A .ari .sub .i64 z1 5 = fitK i a := fun z1 hz1 => by
        have := hz1.eq
        rw [hqu, show ((40 : Nat) : Int) = 40 from rfl] at this
        have h1 := Int.emod_nonneg (a.tdiv (1 + 3 * (i : Int))) (show (40 : Int) ≠ 0 by decide)
        have h2 := Int.emod_lt_of_pos (a.tdiv (1 + 3 * (i : Int))) (show (0 : Int) < 40 by decide)
        rw [hA.ari]; simp only [ari]; unfold fitK
        have h3 : z1 = a.tdiv (1 + 3 * (i : Int)) % 40 := by
          rw [this]; exact Int.toNat_of_nonneg h1
        rw [IntWalk.i64_in _ (by omega)]; omega
      have hk5 := hkk z1 (by rw [← hj1]; exact hz1)
      generalize e1 : A .icm .eql xk 1 = u1
      generalize e2 : A .icm .eql xk 2 = u2
      generalize e3 : A .icm .eql xk 3 = u3
      have f2 := e2
      have f3 := e3
      cases u1 with
      | true =>
        have k1 : xk = 1 := by rw [icm_eql A] at e1; exact of_decide_eq_true e1
        cbv
        refine within54' _ 2 (n := 2) rfl (by decide) (by decide) h' (fun z2 j2 hz2 hj2 hj2l => ?_)
        have hzv : z2 = fitK i a % 2 := by
          have := hz2.eq
          rw [hj2, hk5] at this
          rw [this]; exact Int.toNat_of_nonneg (Int.emod_nonneg _ (by decide))
        cbv
        refine ⟨⟨hqh.isSm (by omega), hix⟩, ?_⟩
        cbv
        refine hqh.loadF hx hz.eq (o := 2) (m := 1) (by decide) (fun cs hcs => ?_)
        have hcs : cs = [.string xn, .int .i64 xk, .bool xb] := hcs
        subst hcs
        cbv
        cases xb with
        | false =>
          cbv
          intro n6 h6 g6 e6
          have l6 : Le h' h6 := by rw [e6]; exact Le.set g6
          have f6 := (congrFun e6 n6).trans hset_self
          have hV : fitV ⟨xn, xk, false⟩ i a = ⟨xk, z2, noS⟩ := by simp [fitV, k1, hzv]
          cbv
          refine (hb.mono (l6.t _)).append (one_sl (s := shVal) f6 (x := ⟨xk, z2, noS⟩) rfl) (by decide) rfl (by decide) (by omega) (hle.trans l6) (fun mm b' c' h7 hmm l7 t7 k7 hb7 => ?_)
          cbv
          refine ⟨sn - (i + 1), (_, b', mm, c'), by omega, ⟨?_, ?_, ?_⟩, i + 1, hz.succ (A := A) (by omega), rfl, by omega, l7, ?_⟩
          · cbv
          · cbv
          · cbv
          · rw [fitL_succ hx, ← hB, hV]; exact hb7
        | true =>
          cbv
          refine within54' a 5 (n := 5) rfl (by decide) (by decide) h' (fun z5 j5 hz5 hj5 hj5l => ?_)
          have h50 : z5 = a % 5 := by
            have := hz5.eq
            rw [hj5] at this
            rw [this]; exact Int.toNat_of_nonneg (Int.emod_nonneg _ (by decide))
          cbv
          generalize e5 : A .icm .eql z5 0 = u5
          rw [icm_eql A] at e5
          cases u5 with
          | true =>
            have e5 : a % 5 = 0 := by rw [← h50]; exact of_decide_eq_true e5
            cbv
            intro n6 h6 g6 e6
            have l6 : Le h' h6 := by rw [e6]; exact Le.set g6
            have f6 := (congrFun e6 n6).trans hset_self
            have hV : fitV ⟨xn, xk, true⟩ i a = ⟨0, 0, noS⟩ := by unfold fitV; rw [if_pos ⟨rfl, e5⟩]
            cbv
            refine (hb.mono (l6.t _)).append (one_sl (s := shVal) f6 (x := ⟨0, 0, noS⟩) rfl) (by decide) rfl (by decide) (by omega) (hle.trans l6) (fun mm b' c' h7 hmm l7 t7 k7 hb7 => ?_)
            cbv
            refine ⟨sn - (i + 1), (_, b', mm, c'), by omega, ⟨?_, ?_, ?_⟩, i + 1, hz.succ (A := A) (by omega), rfl, by omega, l7, ?_⟩
            · cbv
            · cbv
            · cbv
            · rw [fitL_succ hx, ← hB, hV]; exact hb7
          | false =>
            have e5 : ¬ a % 5 = 0 := by rw [← h50]; exact of_decide_eq_false e5
            cbv
            intro n6 h6 g6 e6
            have l6 : Le h' h6 := by rw [e6]; exact Le.set g6
            have f6 := (congrFun e6 n6).trans hset_self
            have hV : fitV ⟨xn, xk, true⟩ i a = ⟨xk, z2, noS⟩ := by simp [fitV, e5, k1, hzv]
            cbv
            refine (hb.mono (l6.t _)).append (one_sl (s := shVal) f6 (x := ⟨xk, z2, noS⟩) rfl) (by decide) rfl (by decide) (by omega) (hle.trans l6) (fun mm b' c' h7 hmm l7 t7 k7 hb7 => ?_)
            cbv
            refine ⟨sn - (i + 1), (_, b', mm, c'), by omega, ⟨?_, ?_, ?_⟩, i + 1, hz.succ (A := A) (by omega), rfl, by omega, l7, ?_⟩
            · cbv
            · cbv
            · cbv
            · rw [fitL_succ hx, ← hB, hV]; exact hb7
      | false =>
        have k1 : ¬ xk = 1 := by rw [icm_eql A] at e1; exact of_decide_eq_false e1
        cbv
        rw [f2]
        cases u2 with
        | true =>
          have k2 : xk = 2 := by rw [icm_eql A] at e2; exact of_decide_eq_true e2
          cbv
          refine ⟨⟨hqh.isSm (by omega), hix⟩, ?_⟩
          cbv
          refine hqh.loadF hx hz.eq (o := 2) (m := 1) (by decide) (fun cs hcs => ?_)
          have hcs : cs = [.string xn, .int .i64 xk, .bool xb] := hcs
          subst hcs
          cbv
          cases xb with
          | false =>
            cbv
            intro n6 h6 g6 e6
            have l6 : Le h' h6 := by rw [e6]; exact Le.set g6
            have f6 := (congrFun e6 n6).trans hset_self
            have hV : fitV ⟨xn, xk, false⟩ i a = ⟨xk, A .ari .sub .i64 z1 5, noS⟩ := by simp [fitV, k1, k2, hk5]
            cbv
            refine (hb.mono (l6.t _)).append (one_sl (s := shVal) f6 (x := ⟨xk, A .ari .sub .i64 z1 5, noS⟩) rfl) (by decide) rfl (by decide) (by omega) (hle.trans l6) (fun mm b' c' h7 hmm l7 t7 k7 hb7 => ?_)
            cbv
            refine ⟨sn - (i + 1), (_, b', mm, c'), by omega, ⟨?_, ?_, ?_⟩, i + 1, hz.succ (A := A) (by omega), rfl, by omega, l7, ?_⟩
            · cbv
            · cbv
            · cbv
            · rw [fitL_succ hx, ← hB, hV]; exact hb7
          | true =>
            cbv
            refine within54' a 5 (n := 5) rfl (by decide) (by decide) h' (fun z5 j5 hz5 hj5 hj5l => ?_)
            have h50 : z5 = a % 5 := by
              have := hz5.eq
              rw [hj5] at this
              rw [this]; exact Int.toNat_of_nonneg (Int.emod_nonneg _ (by decide))
            cbv
            generalize e5 : A .icm .eql z5 0 = u5
            rw [icm_eql A] at e5
            cases u5 with
            | true =>
              have e5 : a % 5 = 0 := by rw [← h50]; exact of_decide_eq_true e5
              cbv
              intro n6 h6 g6 e6
              have l6 : Le h' h6 := by rw [e6]; exact Le.set g6
              have f6 := (congrFun e6 n6).trans hset_self
              have hV : fitV ⟨xn, xk, true⟩ i a = ⟨0, 0, noS⟩ := by unfold fitV; rw [if_pos ⟨rfl, e5⟩]
              cbv
              refine (hb.mono (l6.t _)).append (one_sl (s := shVal) f6 (x := ⟨0, 0, noS⟩) rfl) (by decide) rfl (by decide) (by omega) (hle.trans l6) (fun mm b' c' h7 hmm l7 t7 k7 hb7 => ?_)
              cbv
              refine ⟨sn - (i + 1), (_, b', mm, c'), by omega, ⟨?_, ?_, ?_⟩, i + 1, hz.succ (A := A) (by omega), rfl, by omega, l7, ?_⟩
              · cbv
              · cbv
              · cbv
              · rw [fitL_succ hx, ← hB, hV]; exact hb7
            | false =>
              have e5 : ¬ a % 5 = 0 := by rw [← h50]; exact of_decide_eq_false e5
              cbv
              intro n6 h6 g6 e6
              have l6 : Le h' h6 := by rw [e6]; exact Le.set g6
              have f6 := (congrFun e6 n6).trans hset_self
              have hV : fitV ⟨xn, xk, true⟩ i a = ⟨xk, A .ari .sub .i64 z1 5, noS⟩ := by simp [fitV, e5, k1, k2, hk5]
              cbv
              refine (hb.mono (l6.t _)).append (one_sl (s := shVal) f6 (x := ⟨xk, A .ari .sub .i64 z1 5, noS⟩) rfl) (by decide) rfl (by decide) (by omega) (hle.trans l6) (fun mm b' c' h7 hmm l7 t7 k7 hb7 => ?_)
              cbv
              refine ⟨sn - (i + 1), (_, b', mm, c'), by omega, ⟨?_, ?_, ?_⟩, i + 1, hz.succ (A := A) (by omega), rfl, by omega, l7, ?_⟩
              · cbv
              · cbv
              · cbv
              · rw [fitL_succ hx, ← hB, hV]; exact hb7
        | false =>
          have k2 : ¬ xk = 2 := by rw [icm_eql A] at e2; exact of_decide_eq_false e2
          cbv
          rw [f3]
          cases u3 with
          | true =>
            have k3 : xk = 3 := by rw [icm_eql A] at e3; exact of_decide_eq_true e3
            cbv
            refine within54' _ 9 (n := 9) rfl (by decide) (by decide) h' (fun z2 j2 hz2 hj2 hj2l => ?_)
            have hs3 : A .sub fitAbc 0 z2 = fitAbc.extract 0 (fitK i a % 9).toNat := by
              have := hz2.eq
              rw [hj2, hk5] at this
              rw [hA.sub]; show fitAbc.extract (0 : Int).toNat z2.toNat = _; rw [this]; rfl
            have hsl : 0 ≤ z2 ∧ z2 ≤ 26 := by have := hz2.eq; omega
            cbv
            refine ⟨hsl, ?_⟩
            cbv
            refine ⟨⟨hqh.isSm (by omega), hix⟩, ?_⟩
            cbv
            refine hqh.loadF hx hz.eq (o := 2) (m := 1) (by decide) (fun cs hcs => ?_)
            have hcs : cs = [.string xn, .int .i64 xk, .bool xb] := hcs
            subst hcs
            cbv
            cases xb with
            | false =>
              cbv
              intro n6 h6 g6 e6
              have l6 : Le h' h6 := by rw [e6]; exact Le.set g6
              have f6 := (congrFun e6 n6).trans hset_self
              have hV : fitV ⟨xn, xk, false⟩ i a = ⟨xk, 0, A .sub fitAbc 0 z2⟩ := by simp [fitV, k1, k2, k3, hs3]
              cbv
              refine (hb.mono (l6.t _)).append (one_sl (s := shVal) f6 (x := ⟨xk, 0, A .sub fitAbc 0 z2⟩) rfl) (by decide) rfl (by decide) (by omega) (hle.trans l6) (fun mm b' c' h7 hmm l7 t7 k7 hb7 => ?_)
              cbv
              refine ⟨sn - (i + 1), (_, b', mm, c'), by omega, ⟨?_, ?_, ?_⟩, i + 1, hz.succ (A := A) (by omega), rfl, by omega, l7, ?_⟩
              · cbv
              · cbv
              · cbv
              · rw [fitL_succ hx, ← hB, hV]; exact hb7
            | true =>
              cbv
              refine within54' a 5 (n := 5) rfl (by decide) (by decide) h' (fun z5 j5 hz5 hj5 hj5l => ?_)
              have h50 : z5 = a % 5 := by
                have := hz5.eq
                rw [hj5] at this
                rw [this]; exact Int.toNat_of_nonneg (Int.emod_nonneg _ (by decide))
              cbv
              generalize e5 : A .icm .eql z5 0 = u5
              rw [icm_eql A] at e5
              cases u5 with
              | true =>
                have e5 : a % 5 = 0 := by rw [← h50]; exact of_decide_eq_true e5
                cbv
                intro n6 h6 g6 e6
                have l6 : Le h' h6 := by rw [e6]; exact Le.set g6
                have f6 := (congrFun e6 n6).trans hset_self
                have hV : fitV ⟨xn, xk, true⟩ i a = ⟨0, 0, noS⟩ := by unfold fitV; rw [if_pos ⟨rfl, e5⟩]
                cbv
                refine (hb.mono (l6.t _)).append (one_sl (s := shVal) f6 (x := ⟨0, 0, noS⟩) rfl) (by decide) rfl (by decide) (by omega) (hle.trans l6) (fun mm b' c' h7 hmm l7 t7 k7 hb7 => ?_)
                cbv
                refine ⟨sn - (i + 1), (_, b', mm, c'), by omega, ⟨?_, ?_, ?_⟩, i + 1, hz.succ (A := A) (by omega), rfl, by omega, l7, ?_⟩
                · cbv
                · cbv
                · cbv
                · rw [fitL_succ hx, ← hB, hV]; exact hb7
              | false =>
                have e5 : ¬ a % 5 = 0 := by rw [← h50]; exact of_decide_eq_false e5
                cbv
                intro n6 h6 g6 e6
                have l6 : Le h' h6 := by rw [e6]; exact Le.set g6
                have f6 := (congrFun e6 n6).trans hset_self
                have hV : fitV ⟨xn, xk, true⟩ i a = ⟨xk, 0, A .sub fitAbc 0 z2⟩ := by simp [fitV, e5, k1, k2, k3, hs3]
                cbv
                refine (hb.mono (l6.t _)).append (one_sl (s := shVal) f6 (x := ⟨xk, 0, A .sub fitAbc 0 z2⟩) rfl) (by decide) rfl (by decide) (by omega) (hle.trans l6) (fun mm b' c' h7 hmm l7 t7 k7 hb7 => ?_)
                cbv
                refine ⟨sn - (i + 1), (_, b', mm, c'), by omega, ⟨?_, ?_, ?_⟩, i + 1, hz.succ (A := A) (by omega), rfl, by omega, l7, ?_⟩
                · cbv
                · cbv
                · cbv
                · rw [fitL_succ hx, ← hB, hV]; exact hb7
          | false =>
            have k3 : ¬ xk = 3 := by rw [icm_eql A] at e3; exact of_decide_eq_false e3
            cbv
            refine ⟨⟨hqh.isSm (by omega), hix⟩, ?_⟩
            cbv
            refine hqh.loadF hx hz.eq (o := 2) (m := 1) (by decide) (fun cs hcs => ?_)
            have hcs : cs = [.string xn, .int .i64 xk, .bool xb] := hcs
            subst hcs
            cbv
            cases xb with
            | false =>
              cbv
              intro n6 h6 g6 e6
              have l6 : Le h' h6 := by rw [e6]; exact Le.set g6
              have f6 := (congrFun e6 n6).trans hset_self
              have hV : fitV ⟨xn, xk, false⟩ i a = ⟨xk, 0, noS⟩ := by simp [fitV, k1, k2, k3]
              cbv
              refine (hb.mono (l6.t _)).append (one_sl (s := shVal) f6 (x := ⟨xk, 0, noS⟩) rfl) (by decide) rfl (by decide) (by omega) (hle.trans l6) (fun mm b' c' h7 hmm l7 t7 k7 hb7 => ?_)
              cbv
              refine ⟨sn - (i + 1), (_, b', mm, c'), by omega, ⟨?_, ?_, ?_⟩, i + 1, hz.succ (A := A) (by omega), rfl, by omega, l7, ?_⟩
              · cbv
              · cbv
              · cbv
              · rw [fitL_succ hx, ← hB, hV]; exact hb7
            | true =>
              cbv
              refine within54' a 5 (n := 5) rfl (by decide) (by decide) h' (fun z5 j5 hz5 hj5 hj5l => ?_)
              have h50 : z5 = a % 5 := by
                have := hz5.eq
                rw [hj5] at this
                rw [this]; exact Int.toNat_of_nonneg (Int.emod_nonneg _ (by decide))
              cbv
              generalize e5 : A .icm .eql z5 0 = u5
              rw [icm_eql A] at e5
              cases u5 with
              | true =>
                have e5 : a % 5 = 0 := by rw [← h50]; exact of_decide_eq_true e5
                cbv
                intro n6 h6 g6 e6
                have l6 : Le h' h6 := by rw [e6]; exact Le.set g6
                have f6 := (congrFun e6 n6).trans hset_self
                have hV : fitV ⟨xn, xk, true⟩ i a = ⟨0, 0, noS⟩ := by unfold fitV; rw [if_pos ⟨rfl, e5⟩]
                cbv
                refine (hb.mono (l6.t _)).append (one_sl (s := shVal) f6 (x := ⟨0, 0, noS⟩) rfl) (by decide) rfl (by decide) (by omega) (hle.trans l6) (fun mm b' c' h7 hmm l7 t7 k7 hb7 => ?_)
                cbv
                refine ⟨sn - (i + 1), (_, b', mm, c'), by omega, ⟨?_, ?_, ?_⟩, i + 1, hz.succ (A := A) (by omega), rfl, by omega, l7, ?_⟩
                · cbv
                · cbv
                · cbv
                · rw [fitL_succ hx, ← hB, hV]; exact hb7
              | false =>
                have e5 : ¬ a % 5 = 0 := by rw [← h50]; exact of_decide_eq_false e5
                cbv
                intro n6 h6 g6 e6
                have l6 : Le h' h6 := by rw [e6]; exact Le.set g6
                have f6 := (congrFun e6 n6).trans hset_self
                have hV : fitV ⟨xn, xk, true⟩ i a = ⟨xk, 0, noS⟩ := by simp [fitV, e5, k1, k2, k3]
                cbv
                refine (hb.mono (l6.t _)).append (one_sl (s := shVal) f6 (x := ⟨xk, 0, noS⟩) rfl) (by decide) rfl (by decide) (by omega) (hle.trans l6) (fun mm b' c' h7 hmm l7 t7 k7 hb7 => ?_)
                cbv
                refine ⟨sn - (i + 1), (_, b', mm, c'), by omega, ⟨?_, ?_, ?_⟩, i + 1, hz.succ (A := A) (by omega), rfl, by omega, l7, ?_⟩
                · cbv
                · cbv
                · cbv
                · rw [fitL_succ hx, ← hB, hV]; exact hb7
    · have hge := hz.ge hc
      clear hc
      have hie : i = sn := by omega
      have hl2 : Le h h' := hle
      have hfin := hk h' b5 n5 c5 hl2 (by rw [show cols.length = i by omega, ← hB]; exact hb)
      cbv
      exact hfin
end Go.S

