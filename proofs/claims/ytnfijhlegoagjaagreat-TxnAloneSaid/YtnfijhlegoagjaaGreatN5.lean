import Derived.Test.YtnfijhlegoagjaaGreatN3
set_option linter.unusedVariables false
set_option linter.unusedSimpArgs false
set_option linter.unusedSectionVars false
set_option maxRecDepth 100000
set_option maxHeartbeats 8000000
set_option linter.unusedVariables false
set_option linter.unusedSimpArgs false
namespace Go.S
open Go.Sx Go.Proofs
/-! What a session that holds a table reads of it. -/
def Has (nm : ByteArray) (R : List Row) (T : List Tbl) : Prop := ∃ t ∈ T, t.S.name = nm ∧ t.rows = R
def Keeps (nm : ByteArray) (R : List Row) (d : DB) : Prop := (∃ x ∈ d.holds, x.s = 3 ∧ x.table = nm) ∧ Has nm R d.tabs
def At3 (d : DB) : Prop := ∃ w ∈ d.works, w.s = 3
theorem has_set {nm : ByteArray} {R : List Row} {T : List Tbl} (h : Has nm R T) {i : Nat} {t t' : Tbl} (hi : T[i]? = some t) (hn : t.S.name ≠ nm) : Has nm R (T.set i t') := by
  obtain ⟨u, hu, h1, h2⟩ := h
  obtain ⟨j, hj⟩ := List.getElem?_of_mem hu
  have hne : i ≠ j := fun e => by
    subst e
    rw [hi] at hj; cases hj
    exact hn h1
  exact ⟨u, List.mem_iff_getElem?.2 ⟨j, by rw [List.getElem?_set_ne hne]; exact hj⟩, h1, h2⟩
theorem has_undo {nm : ByteArray} {R : List Row} {T : List Tbl} (hT : TW T) (h : Has nm R T) : ∀ {l : List Chg}, (∀ x ∈ l, ChOk T x) → (∀ x ∈ l, x.table ≠ nm) → Has nm R (undoL T l)
  | [], _, _ => h
  | x :: r, hl, hn => by
    have ih := has_undo hT h (l := r) (fun y hy => hl y (List.mem_cons_of_mem _ hy)) (fun y hy => hn y (List.mem_cons_of_mem _ hy))
    have hTW := undoL_TW hT (l := r) (fun y hy => hl y (List.mem_cons_of_mem _ hy))
    have hx := (hl x (by simp)).map (undoL_S T r)
    show Has nm R (undo1 (undoL T r) x)
    obtain ⟨t, ht, hnm⟩ := hx.at_
    obtain ⟨i, hi⟩ := List.getElem?_of_mem ht
    rw [(undo1_at hTW hx hi hnm).1]
    exact has_set ih hi (by rw [hnm]; exact hn x (by simp))
/-- No other session has changes of a table that session 3 holds. -/
theorem log_other {nm : ByteArray} {R : List Row} {d : DB} (q : SC d) (k : Keeps nm R d) {w : Wrk} (hw : w ∈ d.works) (hs : w.s ≠ 3) : ∀ c ∈ w.log, c.table ≠ nm := fun c hc e => by
  obtain ⟨x, hx, h1, h2, h3⟩ := q.lg w hw c hc
  obtain ⟨⟨y, hy, g1, g2⟩, -⟩ := k
  have := q.hc x hx y hy
  unfold agst at this
  rw [h1, h2, h3, g1, g2, e] at this
  simp at this
  exact hs this
theorem ask_keeps {nm : ByteArray} {R : List Row} {d : DB} (hd : Hld) (W' : List Hld) (k : Keeps nm R d) : Keeps nm R ⟨d.tabs, d.works, askH d.holds hd, W'⟩ := by
  refine ⟨?_, k.2⟩
  obtain ⟨⟨y, hy, g1, g2⟩, -⟩ := k
  show ∃ x ∈ askH d.holds hd, _
  rcases askH_cases (H := d.holds) hd with ⟨-, h1⟩ | ⟨-, e⟩
  · rcases h1 with ⟨e, -⟩ | ⟨-, e, -⟩ | ⟨-, -, i, x, hx, e1, e2, e⟩
    · rw [e]; exact ⟨y, hy, g1, g2⟩
    · rw [e]; exact ⟨y, List.mem_append.2 (.inl hy), g1, g2⟩
    · rw [e]
      obtain ⟨j, hj⟩ := List.getElem?_of_mem hy
      by_cases hij : i = j
      · subst hij
        rw [hx] at hj; cases hj
        exact ⟨hd, List.mem_iff_getElem?.2 ⟨i, List.getElem?_set_self (List.getElem?_eq_some_iff.1 hx).1⟩, e1.symm.trans g1, e2.symm.trans g2⟩
      · exact ⟨y, List.mem_iff_getElem?.2 ⟨j, by rw [List.getElem?_set_ne hij]; exact hj⟩, g1, g2⟩
  · rw [e]; exact ⟨y, hy, g1, g2⟩
theorem wout_keeps {nm : ByteArray} {H : List Hld} {s : Int} (h : ∃ x ∈ H, x.s = 3 ∧ x.table = nm) (hs : s ≠ 3) : ∃ x ∈ wout H s, x.s = 3 ∧ x.table = nm := by
  obtain ⟨x, hx, h1, h2⟩ := h
  exact ⟨x, wout_mem.2 ⟨hx, by rw [h1]; exact fun e => hs e.symm⟩, h1, h2⟩
theorem back_keeps {nm : ByteArray} {R : List Row} {d : DB} (q : SC d) (k : Keeps nm R d) {s : Int} (hsr : -2 ^ 63 ≤ s ∧ s < 2 ^ 63) (hs : s ≠ 3) : Keeps nm R (backD d s) := by
  refine ⟨wout_keeps k.1 hs, ?_⟩
  show Has nm R (backK d.tabs d.works s)
  unfold backK
  split
  · rename_i hb
    obtain ⟨w, hw, he⟩ := work_in q.rng hsr hb
    rw [hw]
    have hm := List.mem_of_getElem? hw
    exact has_undo q.tw k.2 (q.log w hm).1 (log_other q k hm (by rw [he]; exact hs))
  · exact k.2
theorem end_at3 {d : DB} (q : SC d) {s : Int} (hsr : -2 ^ 63 ≤ s ∧ s < 2 ^ 63) (h : ∃ w ∈ endK d.works s, w.s = 3) : At3 d ∧ s ≠ 3 := by
  obtain ⟨w, hw, he⟩ := h
  obtain ⟨h1, h2⟩ := (endK_mem q.srt q.rng hsr w).1 hw
  exact ⟨⟨w, h1, he⟩, fun e => h2 (by rw [he, e])⟩
theorem holdL_keeps {nm : ByteArray} {R : List Row} (hd : Hld) : ∀ (f : Nat) (d : DB), SC d → (∃ w ∈ d.works, w.s = hd.s) → Keeps nm R d → At3 (holdL f d hd).1 → Keeps nm R (holdL f d hd).1
  | 0, d, q, hw, k, _ => k
  | f + 1, d, q, hw, k, h3 => by
    have qa := ask_SC q hw (askW d.holds d.waits hd)
    have ka := ask_keeps hd (askW d.holds d.waits hd) k
    unfold holdL at h3 ⊢
    by_cases hfree : askFree d.holds hd = true
    · rw [if_pos hfree]
      exact ka
    · rw [if_neg hfree] at h3 ⊢
      by_cases hv : (victim (edges (askH d.holds hd) (askW d.holds d.waits hd)) hd.s).2 = true
      · rw [if_pos hv] at h3 ⊢
        have hvw : ∃ w ∈ d.works, w.s = (victim (edges (askH d.holds hd) (askW d.holds d.waits hd)) hd.s).1 := by
          have := victim_vic (edges (askH d.holds hd) (askW d.holds d.waits hd)) hd.s
          rcases this.out with ⟨h1, -⟩ | ⟨-, h2, h3, h4, -⟩
          · rw [hv] at h1; cases h1
          · rcases h4 with h4 | ⟨h4, -⟩
            · rw [h4]; exact hw
            · obtain ⟨x, hx, he⟩ := edges_hold (over_in h4)
              obtain ⟨w, hw, he2⟩ := qa.hw x hx
              exact ⟨w, hw, he2.trans he⟩
        have hvs : -2 ^ 63 ≤ (victim (edges (askH d.holds hd) (askW d.holds d.waits hd)) hd.s).1 ∧ (victim (edges (askH d.holds hd) (askW d.holds d.waits hd)) hd.s).1 < 2 ^ 63 := by
          obtain ⟨w, hw, he⟩ := hvw
          have := q.rng w hw
          omega
        by_cases hvv : (victim (edges (askH d.holds hd) (askW d.holds d.waits hd)) hd.s).1 = hd.s
        · rw [if_pos (decide_eq_true hvv)] at h3 ⊢
          obtain ⟨-, hne⟩ := end_at3 qa hvs h3
          exact back_keeps qa ka hvs hne
        · rw [if_neg (by simpa using hvv)] at h3 ⊢
          have hw2 : ∃ w ∈ (backD ⟨d.tabs, d.works, askH d.holds hd, askW d.holds d.waits hd⟩ (victim (edges (askH d.holds hd) (askW d.holds d.waits hd)) hd.s).1).works, w.s = hd.s := by
            obtain ⟨w, hw, he⟩ := hw
            exact ⟨w, (endK_mem qa.srt qa.rng hvs w).2 ⟨hw, by rw [he]; exact fun h => hvv h.symm⟩, he⟩
          have hne : (victim (edges (askH d.holds hd) (askW d.holds d.waits hd)) hd.s).1 ≠ 3 := fun e => by
            have hsub := holdL_sub hd f (backD ⟨d.tabs, d.works, askH d.holds hd, askW d.holds d.waits hd⟩ (victim (edges (askH d.holds hd) (askW d.holds d.waits hd)) hd.s).1)
            obtain ⟨w, hw, he⟩ := h3
            obtain ⟨-, h5⟩ := end_at3 qa hvs ⟨w, hsub.subset hw, he⟩
            exact h5 e
          exact holdL_keeps hd f _ (back_SC qa hvs) hw2 (back_keeps qa ka hvs hne) h3
      · rw [if_neg hv] at h3 ⊢
        exact ka
where
  holdL_sub (hd : Hld) : ∀ (f : Nat) (d : DB), (holdL f d hd).1.works.Sublist d.works
    | 0, d => List.Sublist.refl _
    | f + 1, d => by
      unfold holdL
      split
      · exact List.Sublist.refl _
      · split
        · split
          · exact endK_sub _ _
          · exact (holdL_sub hd f _).trans (endK_sub _ _)
        · exact List.Sublist.refl _
theorem holdF_keeps {nm : ByteArray} {R : List Row} {d : DB} (q : SC d) (hd : Hld) (hs : -2 ^ 63 ≤ hd.s ∧ hd.s < 2 ^ 63) (k : Keeps nm R d) (h3 : At3 (holdF d hd).1) : Keeps nm R (holdF d hd).1 := by
  unfold holdF at h3 ⊢
  by_cases hon : onD d hd = true
  · rw [if_pos hon] at h3 ⊢
    unfold onD at hon
    rw [Bool.and_eq_true] at hon
    obtain ⟨w, hw, he⟩ := (work_iff q.srt q.rng hs).1 hon.1
    exact holdL_keeps hd _ d q ⟨w, hw, he⟩ k h3
  · rw [if_neg hon]; exact k
theorem works_at3 {d : DB} {i : Nat} {w w' : Wrk} (hi : d.works[i]? = some w) (h : ∃ x ∈ d.works.set i w', x.s = 3) (hs : w'.s = w.s) : At3 d := by
  obtain ⟨x, hx, he⟩ := h
  rcases List.mem_or_eq_of_mem_set hx with h1 | h1
  · exact ⟨x, h1, he⟩
  · exact ⟨w, List.mem_of_getElem? hi, by rw [← hs, ← h1]; exact he⟩
/-- A change of another session's. -/
theorem change_keeps {nm : ByteArray} {R : List Row} {n : Nat} {hd : Hld} {d1 : DB} {i j : Nat} {w w' : Wrk} {t t' : Tbl} (g : Granted n hd d1 i w j t) (hx : hd.x = true) (hs3 : hd.s ≠ 3) (hw : w'.s = w.s)
    (h0 : At3 d1 → Keeps nm R d1) (h3 : At3 ⟨d1.tabs.set j t', d1.works.set i w', d1.holds, d1.waits⟩) : Keeps nm R ⟨d1.tabs.set j t', d1.works.set i w', d1.holds, d1.waits⟩ := by
  have k := h0 (works_at3 g.wi h3 hw)
  refine ⟨k.1, has_set k.2 g.tj ?_⟩
  intro e
  obtain ⟨x, hx', a1, a2, a3⟩ := g.hl
  obtain ⟨⟨y, hy, g1, g2⟩, -⟩ := k
  have := g.sc.hc x hx' y hy
  unfold agst at this
  rw [hx] at a3
  have a3 : x.x = true := by simpa using a3
  rw [a1, a2, a3, g1, g2, ← e, g.tn] at this
  simp at this
  exact hs3 this
theorem step_keeps {nm : ByteArray} {R : List Row} {n : Nat} {se : Int} {d d' : DB} (J : SJ n d) (hn : n ≤ 2 ^ 17) (hs : -2 ^ 63 ≤ se ∧ se < 2 ^ 63) (hne : se ≠ 3) (h : StepR se d d') (h0 : At3 d → Keeps nm R d) (h3 : At3 d') : Keeps nm R d' := by
  have hold : ∀ hd : Hld, hd.s = se → At3 (holdF d hd).1 → Keeps nm R (holdF d hd).1 := fun hd he h3 => by
    refine holdF_keeps J.sc hd (by omega) (h0 ?_) h3
    obtain ⟨w, hw, hw3⟩ := h3
    exact ⟨w, (holdF_ok J.okd hd (by omega)).sub.subset hw, hw3⟩
  have full : At3 d → ¬ ¬ decide ((d.works.length : Int) > 0) = true := fun ⟨w, hw, _⟩ hh => by
    have := works_nil hh
    rw [this] at hw; cases hw
  cases h with
  | begin =>
    have e : (beginD d se).1.tabs = d.tabs ∧ (beginD d se).1.holds = d.holds ∧ (At3 (beginD d se).1 → At3 d) := by
      unfold beginD beginR
      split
      · exact ⟨rfl, rfl, id⟩
      · split
        · exact ⟨rfl, rfl, id⟩
        · refine ⟨rfl, rfl, fun ⟨w, hw, he⟩ => ?_⟩
          have hw : w ∈ d.works.take (bsI (wrkC d.works se)) ++ [(⟨se, [], []⟩ : Wrk)] ++ d.works.drop (bsI (wrkC d.works se)) := hw
          rcases List.mem_append.1 hw with hw | hw
          · rcases List.mem_append.1 hw with hw | hw
            · exact ⟨w, List.mem_of_mem_take hw, he⟩
            · simp at hw
              subst hw
              exact absurd he hne
          · exact ⟨w, List.mem_of_mem_drop hw, he⟩
    obtain ⟨e1, e2, e3⟩ := e
    have k := h0 (e3 h3)
    unfold Keeps at k ⊢
    rw [e1, e2]; exact k
  | hold nm' x => exact hold _ rfl h3
  | put nm' hr =>
    rename_i r
    obtain ⟨⟨d1, e⟩, hH⟩ : ∃ X, holdF d ⟨se, nm', true⟩ = X := ⟨_, rfl⟩
    have hh := hold ⟨se, nm', true⟩ rfl
    rw [hH] at hh
    by_cases he : e = 0
    · subst he
      obtain ⟨i, w, j, t, g⟩ := hold_granted J.sc J.okd hs hH
      have hc := change_granted hH g (doPut r)
      have hp : putF d se nm' r = _ := hc
      rw [hp] at h3 ⊢
      split at h3
      · rename_i hcond; rw [if_pos hcond]; exact hh h3
      · rename_i hcond
        rw [if_neg hcond]
        split at h3
        · rename_i hc2
          rw [if_pos hc2]
          exact change_keeps g rfl hne rfl hh h3
        · rename_i hc2; rw [if_neg hc2]; exact hh h3
    · have hp : putF d se nm' r = (d1, e) := change_refused hH he _
      rw [hp] at h3 ⊢
      exact hh h3
  | take nm' a =>
    obtain ⟨⟨d1, e⟩, hH⟩ : ∃ X, holdF d ⟨se, nm', true⟩ = X := ⟨_, rfl⟩
    have hh := hold ⟨se, nm', true⟩ rfl
    rw [hH] at hh
    by_cases he : e = 0
    · subst he
      obtain ⟨i, w, j, t, g⟩ := hold_granted J.sc J.okd hs hH
      have hc := change_granted hH g (doTake ⟨2, a, noS⟩)
      have hp : takeF d se nm' ⟨2, a, noS⟩ = _ := hc
      rw [hp] at h3 ⊢
      split at h3
      · rename_i hcond; rw [if_pos hcond]; exact hh h3
      · rename_i hcond
        rw [if_neg hcond]
        split at h3
        · rename_i hc2
          rw [if_pos hc2]
          exact change_keeps g rfl hne rfl hh h3
        · rename_i hc2; rw [if_neg hc2]; exact hh h3
    · have hp : takeF d se nm' ⟨2, a, noS⟩ = (d1, e) := change_refused hH he _
      rw [hp] at h3 ⊢
      exact hh h3
  | rows nm' =>
    have hh := hold ⟨se, nm', false⟩ rfl
    unfold rowsD at h3 ⊢
    split at h3
    · rename_i hc; rw [if_pos hc]; exact hh h3
    · rename_i hc; rw [if_neg hc]; exact hh h3
  | save nm' =>
    unfold saveD at h3 ⊢
    split at h3
    · rename_i hb
      rw [if_pos hb]
      obtain ⟨w, hw, he⟩ := work_get J.sc hs hb
      split at h3
      · rename_i hc; rw [if_pos hc]; exact h0 h3
      · rename_i hc
        rw [if_neg hc]
        rw [hw] at h3 ⊢
        simp only at h3 ⊢
        split at h3
        · rename_i hc; rw [if_pos hc]; exact h0 h3
        · rename_i hc
          rw [if_neg hc]
          exact h0 (works_at3 hw h3 rfl)
    · rename_i hb; rw [if_neg hb]; exact h0 h3
  | back nm' =>
    unfold backM at h3 ⊢
    split at h3
    · rename_i hb
      rw [if_pos hb]
      obtain ⟨w, hw, he⟩ := work_get J.sc hs hb
      rw [hw] at h3 ⊢
      simp only at h3 ⊢
      split at h3
      · rename_i k hk
        have kk := h0 (works_at3 hw h3 rfl)
        have hm := List.mem_of_getElem? hw
        refine ⟨kk.1, has_undo J.sc.tw kk.2 (fun x hx => (J.sc.log w hm).1 x (List.mem_of_mem_drop hx)) (fun x hx => log_other J.sc kk hm (by rw [he]; exact hne) x (List.mem_of_mem_drop hx))⟩
      · exact h0 h3
    · rename_i hb; rw [if_neg hb]; exact h0 h3
  | commit =>
    unfold commitD at h3 ⊢
    split at h3
    · rename_i hb
      rw [if_pos hb]
      obtain ⟨a1, a2⟩ := end_at3 J.sc hs h3
      have kk := h0 a1
      exact ⟨wout_keeps kk.1 hne, kk.2⟩
    · rename_i hb; rw [if_neg hb]; exact h0 h3
  | rollback =>
    unfold rollbackD at h3 ⊢
    split at h3
    · rename_i hb
      rw [if_pos hb]
      obtain ⟨a1, a2⟩ := end_at3 J.sc hs h3
      exact back_keeps J.sc (h0 a1) hs hne
    · rename_i hb; rw [if_neg hb]; exact h0 h3
  | create h1 h2 hsz =>
    rename_i s
    obtain ⟨a, b, c, e⟩ := create_SC J.sc h1 h2 hsz
    have a3 : At3 d := by
      obtain ⟨w, hw, he⟩ := h3
      exact ⟨w, by rw [← e]; exact hw, he⟩
    have : (refCreate d s).1 = d := by
      have hf := full a3
      unfold refCreate
      split
      · rfl
      · split
        · rfl
        · split
          · rfl
          · split
            · rfl
            · rename_i hc; exact absurd hc hf
    rw [this]; exact h0 a3
  | drop nm' =>
    obtain ⟨a, b, c, e⟩ := drop_SC J.sc nm'
    have a3 : At3 d := by
      obtain ⟨w, hw, he⟩ := h3
      exact ⟨w, by rw [← e]; exact hw, he⟩
    have : (dropD d nm').1 = d := by
      have hf := full a3
      unfold dropD
      split
      · split
        · rfl
        · rename_i hc; exact absurd hc hf
      · rfl
    rw [this]; exact h0 a3
end Go.S

