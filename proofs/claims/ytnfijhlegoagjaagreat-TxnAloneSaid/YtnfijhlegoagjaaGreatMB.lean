import Derived.Test.YtnfijhlegoagjaaGreatMA
set_option linter.unusedVariables false
set_option linter.unusedSimpArgs false
set_option linter.unusedSectionVars false
set_option maxRecDepth 100000
set_option maxHeartbeats 8000000
set_option linter.unusedVariables false
set_option linter.unusedSimpArgs false
namespace Go.S
open Go.Sx Go.Proofs
/-- What holds of a state of sessions, side by side. -/
structure SC (d : DB) : Prop where
  tw : TW d.tabs
  srt : d.works.Pairwise (fun a b => a.s < b.s)
  rng : ∀ w ∈ d.works, 0 ≤ w.s ∧ w.s < 8
  log : ∀ w ∈ d.works, (∀ x ∈ w.log, ChOk d.tabs x) ∧ w.log.length ≤ 60
  mks : MkOk d
  hu : HU d.holds
  hw : ∀ x ∈ d.holds, ∃ w ∈ d.works, w.s = x.s
  hc : ∀ x ∈ d.holds, ∀ y ∈ d.holds, agst x y = false
  lg : ∀ w ∈ d.works, ∀ c ∈ w.log, ∃ x ∈ d.holds, x.s = w.s ∧ x.table = c.table ∧ x.x = true
theorem SC.si {d : DB} {n : Nat} (q : SC d) (o : Okd n d) (hn : n ≤ 2 ^ 17) : SI d := ⟨q.tw, q.srt, q.rng, q.log, Nat.le_trans o.holds hn, Nat.le_trans o.waits hn⟩
theorem mine_iff {H : List Hld} {hd : Hld} : (mineI H hd = none ∧ ∀ x ∈ H, mineP hd x = false) ∨ ∃ i x, mineI H hd = some i ∧ H[i]? = some x ∧ mineP hd x = true := by
  cases h : mineI H hd with
  | none =>
    left
    refine ⟨rfl, ?_⟩
    unfold mineI at h
    exact List.findIdx?_eq_none_iff.1 h
  | some i =>
    right
    unfold mineI at h
    obtain ⟨h1, h2, -⟩ := List.findIdx?_eq_some_iff_getElem.1 h
    exact ⟨i, _, rfl, List.getElem?_eq_getElem h1, h2⟩
theorem mineP_eq {hd x : Hld} (h : mineP hd x = true) : x.s = hd.s ∧ x.table = hd.table := by
  unfold mineP at h
  simpa using h
/-- What asking makes of the holds. -/
theorem askH_cases {H : List Hld} (hd : Hld) :
    (askFree H hd = true ∧ ((askH H hd = H ∧ ∃ x ∈ H, x.s = hd.s ∧ x.table = hd.table ∧ (x.x || !hd.x) = true) ∨ ((∀ y ∈ H, agst hd y = false) ∧ askH H hd = H ++ [hd] ∧ ∀ x ∈ H, mineP hd x = false) ∨
      ((∀ y ∈ H, agst hd y = false) ∧ hd.x = true ∧ ∃ i x, H[i]? = some x ∧ x.s = hd.s ∧ x.table = hd.table ∧ askH H hd = H.set i hd))) ∨ (askFree H hd = false ∧ askH H hd = H) := by
  have hany : H.any (agst hd) = false → ∀ y ∈ H, agst hd y = false := fun h y hy => by
    have := List.any_eq_false.1 h y hy
    simpa using this
  have hno : askFree H hd = false → askH H hd = H := fun h => by unfold askH; rw [h]; rfl
  rcases mine_iff (H := H) (hd := hd) with ⟨hm, hall⟩ | ⟨i, x, hm, hx, hp⟩
  · obtain ⟨h1, h2, h3⟩ := ask_none (W := []) hm
    cases ha : H.any (agst hd) with
    | false =>
      left
      exact ⟨by rw [h1, ha]; rfl, .inr (.inl ⟨hany ha, h2 ha, hall⟩)⟩
    | true =>
      right
      have : askFree H hd = false := by rw [h1, ha]; rfl
      exact ⟨this, hno this⟩
  · obtain ⟨e1, e2⟩ := mineP_eq hp
    obtain ⟨h1, h2⟩ := ask_some (W := []) hm hx hp
    cases hxx : (x.x || !hd.x) with
    | true =>
      left
      obtain ⟨h3, h4⟩ := h1 hxx
      exact ⟨h3, .inl ⟨h4, x, List.mem_of_getElem? hx, e1, e2, hxx⟩⟩
    | false =>
      obtain ⟨h3, h4, h5⟩ := h2 hxx
      cases ha : H.any (agst hd) with
      | false =>
        left
        refine ⟨by rw [h3, ha]; rfl, .inr (.inr ⟨hany ha, ?_, i, x, hx, e1, e2, ?_⟩)⟩
        · cases hh : hd.x with
          | true => rfl
          | false => rw [hh] at hxx; simp at hxx
        · rw [h4 ha]
          have hh : hd.x = true := by
            cases hh : hd.x with
            | true => rfl
            | false => rw [hh] at hxx; simp at hxx
          congr 1
          cases hd
          simp only at e1 e2 hh
          rw [e1, e2, hh]
      | true =>
        right
        have : askFree H hd = false := by rw [h3, ha]; rfl
        exact ⟨this, hno this⟩
theorem ask_has {H : List Hld} (hd : Hld) (h : askFree H hd = true) : ∃ x ∈ askH H hd, x.s = hd.s ∧ x.table = hd.table ∧ (x.x || !hd.x) = true := by
  rcases askH_cases (H := H) hd with ⟨-, h1⟩ | ⟨h1, -⟩
  · rcases h1 with ⟨e, x, hx, h2⟩ | ⟨-, e, -⟩ | ⟨-, hxx, i, x, hx, e1, e2, e⟩
    · exact ⟨x, by rw [e]; exact hx, h2⟩
    · exact ⟨hd, by rw [e]; simp, rfl, rfl, by cases hd.x <;> rfl⟩
    · refine ⟨hd, ?_, rfl, rfl, by rw [hxx]; rfl⟩
      rw [e]
      exact List.mem_iff_getElem?.2 ⟨i, List.getElem?_set_self (List.getElem?_eq_some_iff.1 hx).1⟩
  · rw [h] at h1; cases h1
theorem agst_self (x : Hld) : agst x x = false := by unfold agst; simp
theorem ask_SC {d : DB} (q : SC d) {hd : Hld} (hw : ∃ w ∈ d.works, w.s = hd.s) (W' : List Hld) : SC ⟨d.tabs, d.works, askH d.holds hd, W'⟩ := by
  rcases askH_cases (H := d.holds) hd with ⟨-, h1⟩ | ⟨-, e⟩
  · rcases h1 with ⟨e, -⟩ | ⟨hall, e, hm⟩ | ⟨hall, hxx, i, x, hx, e1, e2, e⟩
    · rw [e]; exact ⟨q.tw, q.srt, q.rng, q.log, q.mks, q.hu, q.hw, q.hc, q.lg⟩
    · rw [e]
      refine ⟨q.tw, q.srt, q.rng, q.log, q.mks, ?_, ?_, ?_, ?_⟩
      · intro i j x y hi hj h1 h2
        have hi : (d.holds ++ [hd])[i]? = some x := hi
        have hj : (d.holds ++ [hd])[j]? = some y := hj
        rw [List.getElem?_append] at hi hj
        have no : ∀ z ∈ d.holds, z.s = hd.s → z.table = hd.table → False := fun z hz a b => by
          have := hm z hz
          unfold mineP at this
          simp [a, b] at this
        split at hi
        · rename_i a1
          split at hj
          · exact q.hu i j x y hi hj h1 h2
          · rename_i a2
            rw [List.getElem?_singleton] at hj
            split at hj
            · cases hj; exact (no x (List.mem_of_getElem? hi) h1 h2).elim
            · cases hj
        · rename_i a1
          rw [List.getElem?_singleton] at hi
          split at hi
          · cases hi
            split at hj
            · exact (no y (List.mem_of_getElem? hj) h1.symm h2.symm).elim
            · rename_i b1 a2
              rw [List.getElem?_singleton] at hj
              split at hj
              · omega
              · cases hj
          · cases hi
      · intro x hx
        rcases List.mem_append.1 hx with hx | hx
        · exact q.hw x hx
        · simp at hx; rw [hx]; exact hw
      · intro x hx y hy
        rcases List.mem_append.1 hx with hx | hx
        · rcases List.mem_append.1 hy with hy | hy
          · exact q.hc x hx y hy
          · simp at hy; rw [hy, agst_symm]; exact hall x hx
        · simp at hx
          rw [hx]
          rcases List.mem_append.1 hy with hy | hy
          · exact hall y hy
          · simp at hy; rw [hy]; exact agst_self _
      · intro w hw c hc
        obtain ⟨x, hx, h⟩ := q.lg w hw c hc
        exact ⟨x, List.mem_append.2 (.inl hx), h⟩
    · rw [e]
      have hil := (List.getElem?_eq_some_iff.1 hx).1
      refine ⟨q.tw, q.srt, q.rng, q.log, q.mks, ?_, ?_, ?_, ?_⟩
      · have key : ∀ (a : Nat) (y : Hld), (d.holds.set i hd)[a]? = some y → ∃ z : Hld, d.holds[a]? = some z ∧ z.s = y.s ∧ z.table = y.table := fun a y ha => by
          rw [List.getElem?_set] at ha
          split at ha
          · rename_i h
            subst h
            try rw [if_pos hil] at ha
            cases ha
            exact ⟨x, hx, e1, e2⟩
          · exact ⟨y, ha, rfl, rfl⟩
        intro a b x y ha hb h1 h2
        obtain ⟨z1, a1, a2, a3⟩ := key a x ha
        obtain ⟨z2, b1, b2, b3⟩ := key b y hb
        exact q.hu a b z1 z2 a1 b1 (by rw [a2, b2, h1]) (by rw [a3, b3, h2])
      · intro y hy
        rcases List.mem_or_eq_of_mem_set hy with h | h
        · exact q.hw y h
        · rw [h]; exact hw
      · intro y hy z hz
        rcases List.mem_or_eq_of_mem_set hy with h | h
        · rcases List.mem_or_eq_of_mem_set hz with h2 | h2
          · exact q.hc y h z h2
          · rw [h2, agst_symm]; exact hall y h
        · rw [h]
          rcases List.mem_or_eq_of_mem_set hz with h2 | h2
          · exact hall z h2
          · rw [h2]; exact agst_self _
      · intro w hw c hc
        obtain ⟨y, hy, h1, h2, h3⟩ := q.lg w hw c hc
        obtain ⟨j, hj⟩ := List.getElem?_of_mem hy
        by_cases hij : i = j
        · subst hij
          rw [hx] at hj; cases hj
          exact ⟨hd, List.mem_iff_getElem?.2 ⟨i, List.getElem?_set_self hil⟩, by rw [← e1, h1], by rw [← e2, h2], hxx⟩
        · exact ⟨y, List.mem_iff_getElem?.2 ⟨j, by rw [List.getElem?_set_ne hij]; exact hj⟩, h1, h2, h3⟩
  · rw [e]; exact ⟨q.tw, q.srt, q.rng, q.log, q.mks, q.hu, q.hw, q.hc, q.lg⟩
theorem endK_mem {ws : List Wrk} (hs : ws.Pairwise (fun a b => a.s < b.s)) (hr : ∀ w ∈ ws, 0 ≤ w.s ∧ w.s < 8) {s : Int} (hsr : -2 ^ 63 ≤ s ∧ s < 2 ^ 63) (w : Wrk) : w ∈ endK ws s ↔ w ∈ ws ∧ w.s ≠ s := by
  unfold endK
  cases hb : bsB (wrkC ws s) with
  | true =>
    rw [if_pos rfl]
    obtain ⟨w0, hw0, he⟩ := work_in hr hsr hb
    have hu := work_uniq hs hw0
    constructor
    · intro h
      obtain ⟨j, hj, hjw⟩ := List.mem_eraseIdx_iff_getElem?.1 h
      refine ⟨List.mem_of_getElem? hjw, fun e => hj (hu j w hjw (by rw [e, he]))⟩
    · rintro ⟨h, hne⟩
      obtain ⟨j, hj⟩ := List.getElem?_of_mem h
      refine List.mem_eraseIdx_iff_getElem?.2 ⟨j, fun e => ?_, hj⟩
      subst e
      rw [hw0] at hj; cases hj
      exact hne he
  | false =>
    rw [if_neg (by simp)]
    constructor
    · intro h
      refine ⟨h, fun e => ?_⟩
      have := (work_iff hs hr hsr).2 ⟨w, h, e⟩
      rw [hb] at this; cases this
    · exact fun h => h.1
theorem wout_mem {H : List Hld} {s : Int} {x : Hld} : x ∈ wout H s ↔ x ∈ H ∧ x.s ≠ s := by unfold wout; simp [List.mem_filter]
theorem wout_HU {H : List Hld} (h : HU H) (s : Int) : HU (wout H s) := by
  have key : ∀ {L : List Hld}, HU L → ∀ {p : Hld → Bool}, HU (L.filter p) := by
    intro L
    induction L with
    | nil => intro _ p; simp [HU]
    | cons a r ih =>
      intro hL p
      have hr : HU r := fun i j x y hi hj h1 h2 => by
        have := hL (i + 1) (j + 1) x y (by simpa using hi) (by simpa using hj) h1 h2
        omega
      have hne : ∀ y ∈ r, a.s = y.s → a.table = y.table → False := fun y hy h1 h2 => by
        obtain ⟨j, hj⟩ := List.getElem?_of_mem hy
        have := hL 0 (j + 1) a y rfl (by simpa using hj) h1 h2
        omega
      by_cases hp : p a = true
      · rw [List.filter_cons_of_pos hp]
        intro i j x y hi hj h1 h2
        cases i with
        | zero =>
          simp at hi
          subst hi
          cases j with
          | zero => rfl
          | succ j =>
            simp at hj
            exact (hne y (List.mem_filter.1 (List.mem_of_getElem? hj)).1 h1 h2).elim
        | succ i =>
          simp at hi
          cases j with
          | zero =>
            simp at hj
            subst hj
            exact (hne x (List.mem_filter.1 (List.mem_of_getElem? hi)).1 h1.symm h2.symm).elim
          | succ j =>
            simp at hj
            have := ih hr (p := p) i j x y hi hj h1 h2
            omega
      · rw [List.filter_cons_of_neg hp]
        exact ih hr
  exact key h
theorem end_SC {d : DB} (q : SC d) {s : Int} (hsr : -2 ^ 63 ≤ s ∧ s < 2 ^ 63) {T : List Tbl} (hT : TW T) (hS : T.map (·.S) = d.tabs.map (·.S)) (W' : List Hld) : SC ⟨T, endK d.works s, wout d.holds s, W'⟩ := by
  have hm := endK_mem q.srt q.rng hsr
  refine ⟨hT, q.srt.sublist (endK_sub _ _), fun w hw => q.rng w ((hm w).1 hw).1, fun w hw => ?_, fun w hw => q.mks w ((hm w).1 hw).1, wout_HU q.hu s, fun x hx => ?_, fun x hx y hy => q.hc x (wout_mem.1 hx).1 y (wout_mem.1 hy).1, fun w hw c hc => ?_⟩
  · obtain ⟨h1, h2⟩ := q.log w ((hm w).1 hw).1
    exact ⟨fun x hx => (h1 x hx).map hS, h2⟩
  · obtain ⟨h1, h2⟩ := wout_mem.1 hx
    obtain ⟨w, hw, he⟩ := q.hw x h1
    exact ⟨w, (hm w).2 ⟨hw, by rw [he]; exact h2⟩, he⟩
  · obtain ⟨h1, h2⟩ := (hm w).1 hw
    obtain ⟨x, hx, g1, g2⟩ := q.lg w h1 c hc
    exact ⟨x, wout_mem.2 ⟨hx, by rw [g1]; exact h2⟩, g1, g2⟩
theorem backK_TW {d : DB} (q : SC d) (s : Int) : TW (backK d.tabs d.works s) := by
  unfold backK
  split
  · split
    · rename_i w hw
      exact undoL_TW q.tw (q.log w (List.mem_of_getElem? hw)).1
    · exact q.tw
  · exact q.tw
theorem back_SC {d : DB} (q : SC d) {s : Int} (hsr : -2 ^ 63 ≤ s ∧ s < 2 ^ 63) : SC (backD d s) := end_SC q hsr (backK_TW q s) (backK_S _ _ _) _
theorem hold_SC (hd : Hld) (hs : 0 ≤ hd.s ∧ hd.s < 8) : ∀ (f : Nat) (d : DB), SC d → (∃ w ∈ d.works, w.s = hd.s) → SC (holdL f d hd).1 ∧ ((holdL f d hd).2 = 0 → ∃ x ∈ (holdL f d hd).1.holds, x.s = hd.s ∧ x.table = hd.table ∧ (x.x || !hd.x) = true)
  | 0, d, q, hw => ⟨q, fun h => by cases h⟩
  | f + 1, d, q, hw => by
    have qa := ask_SC q hw (askW d.holds d.waits hd)
    unfold holdL
    by_cases hfree : askFree d.holds hd = true
    · rw [if_pos hfree]
      exact ⟨qa, fun _ => ask_has hd hfree⟩
    · rw [if_neg hfree]
      by_cases hv : (victim (edges (askH d.holds hd) (askW d.holds d.waits hd)) hd.s).2 = true
      · rw [if_pos hv]
        have hvs : -2 ^ 63 ≤ (victim (edges (askH d.holds hd) (askW d.holds d.waits hd)) hd.s).1 ∧ (victim (edges (askH d.holds hd) (askW d.holds d.waits hd)) hd.s).1 < 2 ^ 63 := by
          have := victim_vic (edges (askH d.holds hd) (askW d.holds d.waits hd)) hd.s
          rcases this.out with ⟨h1, -⟩ | ⟨-, h2, h3, h4, -⟩
          · rw [hv] at h1; cases h1
          · rcases h4 with h4 | ⟨h4, -⟩
            · rw [h4]; omega
            · obtain ⟨x, hx, he⟩ := edges_hold (over_in h4)
              obtain ⟨w, hw, he2⟩ := qa.hw x hx
              have := qa.rng w hw
              omega
        by_cases hvv : (victim (edges (askH d.holds hd) (askW d.holds d.waits hd)) hd.s).1 = hd.s
        · rw [if_pos (decide_eq_true hvv)]
          exact ⟨back_SC qa hvs, fun h => by cases h⟩
        · rw [if_neg (by simpa using hvv)]
          refine hold_SC hd hs f _ (back_SC qa hvs) ?_
          obtain ⟨w, hw, he⟩ := hw
          exact ⟨w, (endK_mem qa.srt qa.rng hvs w).2 ⟨hw, by rw [he]; exact fun h => hvv h.symm⟩, he⟩
      · rw [if_neg hv]
        exact ⟨qa, fun h => by cases h⟩
theorem holdF_SC {d : DB} (q : SC d) (hd : Hld) (hs : -2 ^ 63 ≤ hd.s ∧ hd.s < 2 ^ 63) : SC (holdF d hd).1 ∧ ((holdF d hd).2 = 0 → ∃ x ∈ (holdF d hd).1.holds, x.s = hd.s ∧ x.table = hd.table ∧ (x.x || !hd.x) = true) := by
  unfold holdF
  by_cases hon : onD d hd = true
  · rw [if_pos hon]
    unfold onD at hon
    rw [Bool.and_eq_true] at hon
    obtain ⟨w, hw, he⟩ := (work_iff q.srt q.rng hs).1 hon.1
    have := q.rng w hw
    exact hold_SC hd (by omega) _ d q ⟨w, hw, he⟩
  · rw [if_neg hon]
    exact ⟨q, fun h => by cases h⟩
end Go.S

set_option maxRecDepth 100000
set_option maxHeartbeats 8000000
set_option linter.unusedVariables false
set_option linter.unusedSimpArgs false
namespace Go.S
open Go.Sx Go.Proofs
structure G4 where
  b1 : Option Addr
  n1 : Nat
  c1 : Nat
  b2 : Option Addr
  n2 : Nat
  c2 : Nat
  b3 : Option Addr
  n3 : Nat
  c3 : Nat
  b4 : Option Addr
  n4 : Nat
  c4 : Nat
structure HIn (n : Nat) (hd : Hld) (D : DB × Int) (m f : Nat) (d0 : DB) : Prop where
  sc : SC d0
  hb : d0.holds.length ≤ n
  wb : (wout d0.waits hd.s).length ≤ n
  wc : d0.waits.length ≤ n + 1
  wk : ∃ w ∈ d0.works, w.s = hd.s
  eq : holdL f d0 hd = D
  fl : d0.holds.length < f
  ms : m = d0.holds.length
theorem rollback_eq {d : DB} (q : SC d) {v : Int} (hv : ∃ w ∈ d.works, w.s = v) : rollbackD d v = (backD d v, 0) ∧ -2 ^ 63 ≤ v ∧ v < 2 ^ 63 := by
  obtain ⟨w, hw, rfl⟩ := hv
  have hr := q.rng w hw
  have := (work_iff q.srt q.rng (s := w.s) (by omega)).2 ⟨w, hw, rfl⟩
  exact ⟨by unfold rollbackD; rw [if_pos this], by omega, by omega⟩
/-- One round of asking: what comes of it. -/
theorem hold_round {n : Nat} {hd : Hld} {D : DB × Int} {m f : Nat} {d0 : DB} (q : HIn n hd D m f d0) (hn : n ≤ 2 ^ 16) :
    ∃ d1 : DB, d1 = ⟨d0.tabs, d0.works, askH d0.holds hd, askW d0.holds d0.waits hd⟩ ∧ SC d1 ∧ SI d1 ∧ d1.holds.length ≤ 2 ^ 17 ∧ d1.waits.length ≤ 2 ^ 17 ∧ (askFree d0.holds hd = true → D = (d1, 0)) ∧
      (askFree d0.holds hd = false → ((victim (edges d1.holds d1.waits) hd.s).2 = false → D = (d1, 16)) ∧ ((victim (edges d1.holds d1.waits) hd.s).2 = true → ∀ v, v = (victim (edges d1.holds d1.waits) hd.s).1 → rollbackD d1 v = (backD d1 v, 0) ∧ -2 ^ 63 ≤ v ∧ v < 2 ^ 63 ∧
        (v = hd.s → D = (backD d1 v, 17)) ∧ (v ≠ hd.s → ∃ m' f', m' < m ∧ HIn n hd D m' f' (backD d1 v)))) := by
  refine ⟨_, rfl, ?_⟩
  have l1 := askH_len (H := d0.holds) (hd := hd)
  have l2 := askW_len2 (H := d0.holds) (W := d0.waits) (hd := hd)
  have l3 := wout_askW (H := d0.holds) (W := d0.waits) (hd := hd)
  have q1 := q.hb
  have q2 := q.wb
  have q3 := q.wc
  have sc1 := ask_SC q.sc q.wk (askW d0.holds d0.waits hd)
  have hlH : (askH d0.holds hd).length ≤ 2 ^ 17 := by omega
  have hlW : (askW d0.holds d0.waits hd).length ≤ 2 ^ 17 := by omega
  refine ⟨sc1, ⟨sc1.tw, sc1.srt, sc1.rng, sc1.log, hlH, hlW⟩, hlH, hlW, ?_, ?_⟩
  · intro hf
    have e := q.eq
    have := q.fl
    obtain ⟨f', rfl⟩ : ∃ f', f = f' + 1 := ⟨f - 1, by omega⟩
    unfold holdL at e
    rw [if_pos hf] at e
    exact e.symm
  · intro hf
    have hf' : ¬ askFree d0.holds hd = true := by rw [hf]; simp
    have hH : askH d0.holds hd = d0.holds := by unfold askH; rw [if_neg hf']
    have e := q.eq
    have hfl := q.fl
    obtain ⟨f', rfl⟩ : ∃ f', f = f' + 1 := ⟨f - 1, by omega⟩
    unfold holdL at e
    rw [if_neg hf'] at e
    refine ⟨fun hv => ?_, fun hv v hve => ?_⟩
    · have hv : (victim (edges (askH d0.holds hd) (askW d0.holds d0.waits hd)) hd.s).2 = false := hv
      rw [if_neg (by rw [hv]; simp)] at e
      exact e.symm
    · have hv : (victim (edges (askH d0.holds hd) (askW d0.holds d0.waits hd)) hd.s).2 = true := hv
      have hve : v = (victim (edges (askH d0.holds hd) (askW d0.holds d0.waits hd)) hd.s).1 := hve
      rw [if_pos hv, ← hve] at e
      have hvw : ∃ w ∈ d0.works, w.s = v := by
        have := victim_vic (edges (askH d0.holds hd) (askW d0.holds d0.waits hd)) hd.s
        rw [← hve] at this
        rcases this.out with ⟨h1, -⟩ | ⟨-, h2, h3, h4, -⟩
        · rw [hv] at h1; cases h1
        · rcases h4 with h4 | ⟨h4, -⟩
          · rw [h4]; exact q.wk
          · obtain ⟨x, hx, he⟩ := edges_hold (over_in h4)
            obtain ⟨w, hw, he2⟩ := sc1.hw x hx
            exact ⟨w, hw, he2.trans he⟩
      obtain ⟨r1, r2, r3⟩ := rollback_eq sc1 hvw
      refine ⟨r1, r2, r3, fun h => ?_, fun h => ?_⟩
      · rw [if_pos (decide_eq_true h)] at e
        exact e.symm
      · rw [if_neg (by simpa using h)] at e
        have hlt := victim_hold hv
        rw [← hve] at hlt
        refine ⟨(wout (askH d0.holds hd) v).length, f', ?_, back_SC sc1 ⟨r2, r3⟩, ?_, ?_, ?_, ?_, e, ?_, rfl⟩
        · have := q.ms
          rw [hH] at hlt ⊢
          omega
        · show (wout (askH d0.holds hd) v).length ≤ n
          rw [hH] at hlt ⊢
          omega
        · show (wout (wout (askW d0.holds d0.waits hd) v) hd.s).length ≤ n
          rw [wout_comm]
          have := wout_len (wout (askW d0.holds d0.waits hd) hd.s) v
          omega
        · show (wout (askW d0.holds d0.waits hd) v).length ≤ n + 1
          have := wout_len (askW d0.holds d0.waits hd) v
          omega
        · obtain ⟨w, hw, he⟩ := q.wk
          exact ⟨w, (endK_mem sc1.srt sc1.rng ⟨r2, r3⟩ w).2 ⟨hw, by rw [he]; exact fun e => h e.symm⟩, he⟩
        · show (wout (askH d0.holds hd) v).length < f'
          rw [hH] at hlt ⊢
          omega
theorem hold79 {d : DB} {h : Heap} {b1 b2 b3 b4 : Option Addr} {n1 c1 n2 c2 n3 c3 n4 c4 : Nat} (q : RP h b1 n1 c1 b2 n2 c2 b3 n3 c3 b4 n4 c4 d) (hC : SC d) {n : Nat} (hO : Okd n d) (hn : n ≤ 2 ^ 16) (hd : Hld) (hs : -2 ^ 63 ≤ hd.s ∧ hd.s < 2 ^ 63) {D : DB × Int} (hD : holdF d hd = D) {k : Value → Heap → Prop} (hk : RK h D.1 D.2 k) :
    Ct 79 [.agg #[.slice b1 n1 c1, .slice b2 n2 c2, .slice b3 n3 c3, .slice b4 n4 c4], .int .i64 hd.s, .string hd.table, .bool hd.x] h k := by
  obtain ⟨A, hA⟩ := Ar.ex
  obtain ⟨s, t, x⟩ := hd
  have hs : -2 ^ 63 ≤ s ∧ s < 2 ^ 63 := hs
  have hI : SI d := hC.si hO (by omega)
  have hwl := works_len hI.srt hI.rng
  have lm1 : A .icm .lss (-1) 0 = true := by rw [icm_lss A]; rfl
  have bad : onD d ⟨s, t, x⟩ = false → D = (d, 2) := fun h => by rw [← hD]; unfold holdF; rw [h]; rfl
  have good : onD d ⟨s, t, x⟩ = true → holdL (d.holds.length + 1) d ⟨s, t, x⟩ = D := fun h => by rw [← hD]; unfold holdF; rw [if_pos h]
  have hon : onD d ⟨s, t, x⟩ = (bsB (wrkC d.works s) && bsB (tabCmps d.tabs t)) := rfl
  clear hD
  refine fn_of_sx A (tabOk T79.plan T79.pub) Tryz.func79 rfl (by kernel_rfl) ?_
  cbv
  refine who39 q s (fun z hidx => ?_)
  rcases work_idx hI hs hidx with ⟨rfl, hb⟩ | ⟨i, w, hz, hw, hws, e1, e2⟩
  · have hDe := bad (by rw [hon, hb]; rfl)
    subst hDe
    have hfin := hk h b1 n1 c1 b2 n2 c2 b3 n3 c3 b4 n4 c4 (Le.refl _) q
    cbv
    rw [lm1]
    cbv
    exact hfin
  · have hlt : A .icm .lss z 0 = false := hz.nlt0 (A := A)
    cbv
    rw [hlt]
    cbv
    refine (find25 q).mono (fun v h1 hR => ?_)
    obtain ⟨l1, z2, rfl, hidx2⟩ := hR
    have q1 := q.mono l1
    rcases tab_idx hI.tw.srt hidx2 with ⟨rfl, hb, -⟩ | ⟨i2, tt, hz2, ht, hnm, g1, g2⟩
    · have hDe := bad (by rw [hon, hb, Bool.and_false])
      subst hDe
      have hfin := hk h1 b1 n1 c1 b2 n2 c2 b3 n3 c3 b4 n4 c4 l1 q1
      cbv
      rw [lm1]
      cbv
      exact hfin
    · have hlt2 : A .icm .lss z2 0 = false := hz2.nlt0 (A := A)
      have hDe := good (by rw [hon, e2, g2]; rfl)
      have hin0 : HIn n ⟨s, t, x⟩ D d.holds.length (d.holds.length + 1) d := ⟨hC, hO.holds, Nat.le_trans (wout_len _ _) hO.waits, by have := hO.waits; omega, ⟨w, List.mem_of_getElem? hw, hws⟩, hDe, by omega, rfl⟩
      obtain ⟨I, hI0⟩ : ∃ I : Nat → G4 → Heap → Prop, ∀ m g h', I m g h' = ∃ d0 f, Le h h' ∧ RP h' g.b1 g.n1 g.c1 g.b2 g.n2 g.c2 g.b3 g.n3 g.c3 g.b4 g.n4 g.c4 d0 ∧ HIn n ⟨s, t, x⟩ D m f d0 := ⟨_, fun _ _ _ => rfl⟩
      have hJ : I d.holds.length ⟨b1, n1, c1, b2, n2, c2, b3, n3, c3, b4, n4, c4⟩ h1 := by rw [hI0]; exact ⟨d, _, l1, q1, hin0⟩
      clear good bad hDe hin0 hidx hidx2 hon
      cbv
      rw [hlt2]
      cbv
      refine LoopX.go (G := G4) (fun g => []) (fun g => [(4, [.slice g.b1 g.n1 g.c1, .slice g.b2 g.n2 g.c2, .slice g.b3 g.n3 g.c3, .slice g.b4 g.n4 g.c4]), (8, [.slice none 0 0, .slice none 0 0, .slice none 0 0, .slice none 0 0])]) (fun m g h' => I m g h') d.holds.length ⟨b1, n1, c1, b2, n2, c2, b3, n3, c3, b4, n4, c4⟩ ⟨?_, ?_, ?_⟩ hJ ?_
      · cbv
      · cbv
      · cbv
      · intro m g h' hI
        rw [hI0] at hI
        cbv
        obtain ⟨d0, f, hle, q0, hin⟩ := hI
        obtain ⟨b1, n1, c1, b2, n2, c2, b3, n3, c3, b4, n4, c4⟩ := g
        have q0 : RP h' b1 n1 c1 b2 n2 c2 b3 n3 c3 b4 n4 c4 d0 := q0
        obtain ⟨d1, hd1, sc1, si1, hb1, wb1, hfree, hnot⟩ := hold_round hin hn
        have hl3 := q0.holds.len
        have hl4 := q0.waits.len
        have hb0 := hin.hb
        have wc0 := hin.wc
        have hu0 := hin.sc.hu
        have hm0 := hin.ms
        have eT : d1.tabs = d0.tabs := by rw [hd1]
        have eW : d1.works = d0.works := by rw [hd1]
        have eH : d1.holds = askH d0.holds ⟨s, t, x⟩ := by rw [hd1]
        have eWt : d1.waits = askW d0.holds d0.waits ⟨s, t, x⟩ := by rw [hd1]
        have hcont : ∀ m' f' d2 (g : G4) h3, Le h h3 → RP h3 g.b1 g.n1 g.c1 g.b2 g.n2 g.c2 g.b3 g.n3 g.c3 g.b4 g.n4 g.c4 d2 → HIn n ⟨s, t, x⟩ D m' f' d2 → I m' g h3 := fun m' f' d2 g h3 a b c => by rw [hI0]; exact ⟨d2, f', a, b, c⟩
        clear hd1 hI0 hin
        refine ask127 q0.holds q0.waits (by omega) (by omega) hu0 s t x (fun h2 e3 m3 f3 e4 m4 f4 u l2 hu v3 v4 => ?_)
        rw [← eH] at v3
        rw [← eWt] at v4
        have q2 : RP h2 b1 n1 c1 b2 n2 c2 e3 m3 f3 e4 m4 f4 d1 := ⟨by rw [eT]; exact (q0.mono l2).tabs, by rw [eW]; exact (q0.mono l2).works, v3, v4⟩
        have hm3 := v3.len
        have hm4 := v4.len
        cases u with
        | true =>
          have hDe := hfree hu.symm
          subst hDe
          have hfin := hk h2 b1 n1 c1 b2 n2 c2 e3 m3 f3 e4 m4 f4 (hle.trans l2) q2
          clear hfree hnot hcont
          cbv
          exact hfin
        | false =>
          obtain ⟨hno, hyes⟩ := hnot hu.symm
          cbv
          refine victim128 v3 v4 (by omega) (by omega) s (fun h3 v tv l3 hv => ?_)
          have hno : tv = false → D = (d1, 16) := fun e => hno (by
            show (victim (edges d1.holds d1.waits) s).2 = false
            rw [hv]; exact e)
          have hyes := fun e : tv = true => hyes (by
            show (victim (edges d1.holds d1.waits) s).2 = true
            rw [hv]; exact e) v (by
            show v = (victim (edges d1.holds d1.waits) s).1
            rw [hv])
          have q3 := q2.mono l3
          cases tv with
          | false =>
            have hnt : A .not false = true := by rw [hA.not]; rfl
            have hDe := hno rfl
            subst hDe
            have hfin := hk h3 b1 n1 c1 b2 n2 c2 e3 m3 f3 e4 m4 f4 ((hle.trans l2).trans l3) q3
            clear hfree hcont hyes
            cbv
            rw [hnt]
            cbv
            exact hfin
          | true =>
            have hnt : A .not true = false := by rw [hA.not]; rfl
            obtain ⟨r1, r2, r3, r4, r5⟩ := hyes rfl
            have r4 : v = s → D = (backD d1 v, 17) := r4
            have r5 : v ≠ s → ∃ m' f', m' < m ∧ HIn n ⟨s, t, x⟩ D m' f' (backD d1 v) := r5
            have fe : A .icm .eql v s = decide (v = s) := icm_eql A ..
            clear hyes hno hfree
            generalize backD d1 v = d2 at *
            cbv
            rw [hnt]
            cbv
            refine rollback86 q3 si1 v ⟨r2, r3⟩ r1 (fun h4 b1 n1 c1 b2 n2 c2 b3 n3 c3 b4 n4 c4 l4 q4 => ?_)
            have q4 : RP h4 b1 n1 c1 b2 n2 c2 b3 n3 c3 b4 n4 c4 d2 := q4
            have l04 := ((hle.trans l2).trans l3).trans l4
            cbv
            rw [fe]
            by_cases hvs : v = s
            · have hDe := r4 hvs
              subst hDe
              have hfin := hk h4 b1 n1 c1 b2 n2 c2 b3 n3 c3 b4 n4 c4 l04 q4
              clear hcont
              rw [decide_eq_true hvs]
              cbv
              exact hfin
            · obtain ⟨m', f', hlt', hin'⟩ := r5 hvs
              have hI := hcont m' f' d2 ⟨b1, n1, c1, b2, n2, c2, b3, n3, c3, b4, n4, c4⟩ h4 l04 q4 hin'
              clear hcont
              rw [decide_eq_false hvs]
              cbv
              refine ⟨m', ⟨b1, n1, c1, b2, n2, c2, b3, n3, c3, b4, n4, c4⟩, hlt', ⟨?_, ?_, ?_⟩, hI⟩
              · cbv
              · cbv
              · cbv
end Go.S

set_option maxRecDepth 100000
set_option maxHeartbeats 8000000
set_option linter.unusedVariables false
set_option linter.unusedSimpArgs false
namespace Go.S
open Go.Sx Go.Proofs
/-- Where a hold was granted. -/
structure Granted (n : Nat) (hd : Hld) (d1 : DB) (i : Nat) (w : Wrk) (j : Nat) (t : Tbl) : Prop where
  sc : SC d1
  ok : Okd (n + 1) d1
  wi : d1.works[i]? = some w
  ws : w.s = hd.s
  bi : bsI (wrkC d1.works hd.s) = i
  tj : d1.tabs[j]? = some t
  tn : t.S.name = hd.table
  bj : bsI (tabCmps d1.tabs hd.table) = j
  hl : ∃ x ∈ d1.holds, x.s = hd.s ∧ x.table = hd.table ∧ (x.x || !hd.x) = true
theorem hold_granted {d : DB} {n : Nat} (hC : SC d) (hO : Okd n d) {hd : Hld} (hs : -2 ^ 63 ≤ hd.s ∧ hd.s < 2 ^ 63) {d1 : DB} (h : holdF d hd = (d1, 0)) : ∃ i w j t, Granted n hd d1 i w j t := by
  obtain ⟨h1, h2⟩ := holdF_SC hC hd hs
  have h3 := holdF_on hO hs (by rw [h])
  have h4 := (holdF_ok hO hd hs).ok
  rw [h] at h1 h2 h3 h4
  obtain ⟨w, hw, he⟩ := work_in h1.rng hs h3.2
  have hlt := bsB_lt h3.1
  obtain ⟨t, ht⟩ := get_ex (xs := d1.tabs) (i := bsI (tabCmps d1.tabs hd.table)) (by simpa [tabCmps] using hlt)
  have hn : t.S.name = hd.table := by
    have h5 := h3.1
    unfold bsB at h5
    obtain ⟨-, h6⟩ := of_decide_eq_true h5
    have : (tabCmps d1.tabs hd.table).getD (bsI (tabCmps d1.tabs hd.table)) 0 = cmpB t.S.name hd.table := by
      conv => lhs; unfold tabCmps
      rw [List.getD_eq_getElem?_getD, List.getElem?_map]
      rw [show d1.tabs.map (fun x => cmpB x.S.name hd.table) = tabCmps d1.tabs hd.table from rfl, ht]; rfl
    rw [this] at h6
    exact cmpB_zero h6
  exact ⟨_, w, _, t, ⟨h1, h4, hw, he, rfl, ht, hn, rfl, h2 rfl⟩⟩
theorem change_granted {d : DB} {n : Nat} {hd : Hld} {d1 : DB} {i j : Nat} {w : Wrk} {t : Tbl} (h : holdF d hd = (d1, 0)) (g : Granted n hd d1 i w j t) (act : Tbl → Tbl × Chg × Int) :
    changeF d hd act = if decide ((act t).2.2 ≠ 19) && decide ((w.log.length : Int) ≥ 60) then (d1, 4) else if decide ((act t).2.2 = 0) = true then
      (⟨d1.tabs.set j (act t).1, d1.works.set i ⟨w.s, w.log ++ [⟨hd.table, (act t).2.1.op, (act t).2.1.row⟩], w.marks⟩, d1.holds, d1.waits⟩, 0) else (d1, (act t).2.2) := by
  unfold changeF
  rw [h]
  simp only [ne_eq, not_true_eq_false, decide_false, Bool.false_eq_true, if_false]
  rw [g.bj, g.bi, g.tj, g.wi]
theorem change_refused {d : DB} {hd : Hld} {d1 : DB} {e : Int} (h : holdF d hd = (d1, e)) (he : e ≠ 0) (act : Tbl → Tbl × Chg × Int) : changeF d hd act = (d1, e) := by
  unfold changeF
  rw [h, if_pos (decide_eq_true he)]
theorem tput_err {S : Sch} (h1 : S.cols = shColsE) (h2 : S.key = 0) {R : List Row} {r : Row} (h : SO R) (hr : RowOk r ∨ r.length ≠ 2) : (tblPut ⟨S, R⟩ r).2 ≠ 19 ∧ ((tblPut ⟨S, R⟩ r).2 = 0 → RowOk r) := by
  rcases hr with hr | hr
  · refine ⟨?_, fun _ => hr⟩
    have hf := hr.fits
    have hr' := hr
    obtain ⟨a, v, rfl, -⟩ := hr'
    obtain ⟨p, q⟩ := h.sr.at_ a
    rw [tblPut_SR (S := S) h2 h.sr (by rw [h1]; exact hf) q]
    split
    · simp
    · split
      · simp
      · simp
  · have hf : fitsErr S.cols r = 1 := by
      unfold fitsErr
      have h2 : S.cols.length = 2 := by rw [h1]; rfl
      rw [if_pos (decide_eq_true (by rw [h2]; omega))]
    unfold tblPut
    simp only
    rw [hf]
    exact ⟨by simp, by simp⟩
/-- 'Put', by steps. -/
theorem put_steps {d : DB} {n : Nat} {hd : Hld} {d1 : DB} {i j : Nat} {w : Wrk} {t : Tbl} (h : holdF d hd = (d1, 0)) (g : Granted n hd d1 i w j t) {r : Row} (hr : RowOk r ∨ r.length ≠ 2) {D : DB × Int} (hD : changeF d hd (doPut r) = D) :
    ((w.log.length : Int) ≥ 60 → D = (d1, 4)) ∧ (¬ (w.log.length : Int) ≥ 60 → ∀ T : Tbl × Int, tblPut t r = T → (T.2 ≠ 0 → D = (d1, T.2)) ∧ (T.2 = 0 → RowOk r ∧ D = (⟨d1.tabs.set j T.1, d1.works.set i ⟨w.s, w.log ++ [⟨hd.table, 1, r⟩], w.marks⟩, d1.holds, d1.waits⟩, 0))) := by
  rw [change_granted h g] at hD
  obtain ⟨c1, c2, c3, -⟩ := g.sc.tw.ok t (List.mem_of_getElem? g.tj)
  obtain ⟨S, R⟩ := t
  obtain ⟨e1, e2⟩ := tput_err c1 c2 c3 hr
  have a1 : (doPut r ⟨S, R⟩).2.2 = (tblPut ⟨S, R⟩ r).2 := rfl
  have a2 : (doPut r ⟨S, R⟩).1 = (tblPut ⟨S, R⟩ r).1 := rfl
  rw [a1, a2] at hD
  rw [decide_eq_true e1, Bool.true_and] at hD
  refine ⟨fun hl => ?_, fun hl T hT => ⟨fun ht => ?_, fun ht => ?_⟩⟩
  · rw [if_pos (decide_eq_true hl)] at hD
    exact hD.symm
  · rw [if_neg (by simpa using hl), hT, if_neg (by simpa using ht)] at hD
    exact hD.symm
  · rw [if_neg (by simpa using hl), hT, if_pos (by simpa using ht)] at hD
    rw [← hD]
    exact ⟨e2 (by rw [hT]; exact ht), rfl⟩
theorem put81 {d : DB} {h : Heap} {b1 b2 b3 b4 rb : Option Addr} {n1 c1 n2 c2 n3 c3 n4 c4 rn rc : Nat} (q : RP h b1 n1 c1 b2 n2 c2 b3 n3 c3 b4 n4 c4 d) (hC : SC d) {n : Nat} (hO : Okd n d) (hn : n ≤ 2 ^ 16) (s : Int) (nm : ByteArray) {r : Row} (hs : -2 ^ 63 ≤ s ∧ s < 2 ^ 63) (qr : Sl 68 shVal h (.slice rb rn rc) r) (hr : RowOk r ∨ r.length ≠ 2)
    {D : DB × Int} (hD : putF d s nm r = D) {k : Value → Heap → Prop} (hk : RK h D.1 D.2 k) :
    Ct 81 [.agg #[.slice b1 n1 c1, .slice b2 n2 c2, .slice b3 n3 c3, .slice b4 n4 c4], .int .i64 s, .string nm, .slice rb rn rc] h k := by
  obtain ⟨A, hA⟩ := Ar.ex
  have hD : changeF d ⟨s, nm, true⟩ (doPut r) = D := hD
  obtain ⟨⟨d1, e⟩, hH⟩ : ∃ X, holdF d ⟨s, nm, true⟩ = X := ⟨_, rfl⟩
  have n00 : A .icm .neq e 0 = decide (e ≠ 0) := icm_neq A ..
  refine fn_of_sx A (tabOk T81.plan T81.pub) Tryz.func81 rfl (by kernel_rfl) ?_
  cbv
  refine hold79 q hC hO hn ⟨s, nm, true⟩ hs hH (fun h1 b1 n1 c1 b2 n2 c2 b3 n3 c3 b4 n4 c4 l1 q1 => ?_)
  have q1 : RP h1 b1 n1 c1 b2 n2 c2 b3 n3 c3 b4 n4 c4 d1 := q1
  cbv
  rw [n00]
  by_cases he : e = 0
  · subst he
    obtain ⟨i, ⟨ws, wl, wm⟩, j, ⟨⟨tn, tc, tk, to_⟩, R⟩, g⟩ := hold_granted hC hO hs hH
    obtain ⟨p1, p2⟩ := put_steps hH g hr hD
    have hI1 : SI d1 := g.sc.si g.ok (by omega)
    obtain ⟨t1, t2, t3, -⟩ := g.sc.tw.ok _ (List.mem_of_getElem? g.tj)
    have t1 : tc = shColsE := t1
    have t2 : tk = 0 := t2
    have t3 : SO R := t3
    subst t1 t2
    have hws : ws = s := g.ws
    have htn : tn = nm := g.tn
    have wi := g.wi
    have tj := g.tj
    have hun := work_uniq hI1.srt wi
    have hwl : d1.works.length ≤ 8 := works_len hI1.srt hI1.rng
    have htl : d1.tabs.length ≤ 8 := hI1.tw.le
    have hlog := (hI1.log _ (List.mem_of_getElem? wi)).2
    have hlog : wl.length ≤ 60 := hlog
    have hil : i < d1.works.length := (List.getElem?_eq_some_iff.1 wi).1
    have hjl : j < d1.tabs.length := (List.getElem?_eq_some_iff.1 tj).1
    have p1 : (wl.length : Int) ≥ 60 → D = (d1, 4) := p1
    have p2 : ¬ (wl.length : Int) ≥ 60 → ∀ T : Tbl × Int, tblPut ⟨⟨tn, shColsE, 0, to_⟩, R⟩ r = T → (T.2 ≠ 0 → D = (d1, T.2)) ∧ (T.2 = 0 → RowOk r ∧ D = (⟨d1.tabs.set j T.1, d1.works.set i ⟨ws, wl ++ [⟨nm, 1, r⟩], wm⟩, d1.holds, d1.waits⟩, 0)) := p2
    have hn2 : n2 = d1.works.length := q1.works.len
    have hn1 : n1 = d1.tabs.length := q1.tabs.len
    have hin : i < n2 := by omega
    have hjn : j < n1 := by omega
    have hT30 : d1.tabs.length ≤ 2 ^ 30 := by omega
    have hW30 : d1.works.length ≤ 2 ^ 30 := by omega
    have hl30 : wl.length ≤ 2 ^ 30 := by omega
    have hn20 : 0 < n2 := by omega
    have hn10 : 0 < n1 := by omega
    clear hD
    rw [decide_eq_false (by simp)]
    cbv
    refine who39 q1 s (fun z hidx => ?_)
    rcases work_idx hI1 hs hidx with ⟨-, hb⟩ | ⟨i', w', hz, hw', hws', -, -⟩
    · have := (work_iff hI1.srt hI1.rng hs).2 ⟨_, List.mem_of_getElem? wi, hws⟩
      rw [hb] at this; cases this
    · obtain rfl : i' = i := hun i' w' hw' (by rw [hws']; exact hws.symm)
      have hck : b2.isSome = true ∧ 0 ≤ z ∧ z < (n2 : Int) := ⟨q1.works.isSm hn20, hz.ix hin⟩
      have hze := hz.eq
      cbv
      refine ⟨hck, ?_⟩
      cbv
      refine q1.works.loadF wi hze (o := 1) (m := 1) (by decide) (fun cs hcs => ?_)
      obtain ⟨u1, v1, w1, u2, v2, w2, rfl, sl, -⟩ := hcs
      have hv1 : v1 = wl.length := sl.len
      have f60 : A .icm .geq (A .nat v1) 60 = decide ((wl.length : Int) ≥ 60) := by rw [icm_geq A, hA.nat, hv1]; rfl
      cbv
      rw [f60]
      by_cases h60 : (wl.length : Int) ≥ 60
      · have hDe := p1 h60
        subst hDe
        have hfin := hk h1 b1 n1 c1 b2 n2 c2 b3 n3 c3 b4 n4 c4 l1 q1
        clear p1 p2
        rw [decide_eq_true h60]
        cbv
        exact hfin
      · obtain ⟨T, hT⟩ : ∃ T, tblPut ⟨⟨tn, shColsE, 0, to_⟩, R⟩ r = T := ⟨_, rfl⟩
        obtain ⟨p3, p4⟩ := p2 h60 T hT
        have hTS : T.1.S = ⟨tn, shColsE, 0, to_⟩ := by rw [← hT]; exact tblPut_S _ _
        clear p1 p2 hidx
        rw [decide_eq_false h60]
        cbv
        refine (find25 q1).mono (fun v h2 hR => ?_)
        obtain ⟨l2, z2, rfl, hidx2⟩ := hR
        have q2 := q1.mono l2
        rcases tab_idx hI1.tw.srt hidx2 with ⟨-, -, hno⟩ | ⟨j', t', hz2, ht', hnm, -, -⟩
        · exact absurd htn (hno _ (List.mem_of_getElem? tj))
        · obtain rfl : j' = j := by
            obtain ⟨a1, -⟩ := tab_at hI1.tw.srt ht'
            obtain ⟨a2, -⟩ := tab_at hI1.tw.srt tj
            rw [hnm] at a1
            have a2 : bsI (tabCmps d1.tabs tn) = j := a2
            rw [htn] at a2
            omega
          have hck2 : b1.isSome = true ∧ 0 ≤ z2 ∧ z2 < (n1 : Int) := ⟨q2.tabs.isSm hn10, hz2.ix hjn⟩
          have hze2 := hz2.eq
          clear hidx2
          cbv
          refine ⟨hck2, ?_⟩
          cbv
          refine q2.tabs.load tj hze2 (fun cs hcs => ?_)
          obtain ⟨x1, y1, z1, x2, y2, z3, rfl, s1, s2⟩ := hcs
          have s1 : Sl 104 shCol h2 (.slice x1 y1 z1) shColsE := s1
          have s2 : Sl 63 shRow h2 (.slice x2 y2 z3) R := s2
          have l02 := l1.trans l2
          obtain ⟨TT, te⟩ := T
          obtain ⟨TS, TR⟩ := TT
          have hTS : TS = ⟨tn, shColsE, 0, to_⟩ := hTS
          subst hTS
          cbv
          refine put130 s1 s2 t3 (qr.mono (l02.t _)) hr hT (fun h3 x3 y3 w3 l3 s3 => ?_)
          have s3 : Sl 63 shRow h3 (.slice x3 y3 w3) TR := s3
          have q3 := q2.mono l3
          have fte : A .icm .neq te 0 = decide (te ≠ 0) := icm_neq A ..
          have p3 : te ≠ 0 → D = (d1, te) := p3
          have p4 : te = 0 → RowOk r ∧ D = (⟨d1.tabs.set j' ⟨⟨tn, shColsE, 0, to_⟩, TR⟩, d1.works.set i' ⟨ws, wl ++ [⟨nm, 1, r⟩], wm⟩, d1.holds, d1.waits⟩, 0) := p4
          cbv
          rw [fte]
          by_cases hte : te = 0
          · obtain ⟨hro, hDe⟩ := p4 hte
            subst hDe
            have hrl : r.length = 2 := by obtain ⟨a, v, rfl, -⟩ := hro; rfl
            have l03 := l02.trans l3
            clear p3 p4
            rw [decide_eq_false (by simpa using hte)]
            cbv
            refine set132 q3 hT30 hz2 hjl (s1.mono (l3.t _)) s3 (fun h4 b1 n1 c1 b2 n2 c2 b3 n3 c3 b4 n4 c4 l4 q4 => ?_)
            cbv
            refine note131 q4 hW30 wi hws (fun j y hy he => hun j y hy (by rw [he]; exact hws.symm)) hl30 (x := ⟨nm, 1, r⟩) ((qr.mono (l03.t _)).mono (l4.t _)) hrl (fun h5 b1 n1 c1 b2 n2 c2 b3 n3 c3 b4 n4 c4 l5 q5 => ?_)
            have hfin := hk h5 b1 n1 c1 b2 n2 c2 b3 n3 c3 b4 n4 c4 ((l03.trans l4).trans l5) q5
            cbv
            exact hfin
          · have hDe := p3 hte
            subst hDe
            have hfin := hk h3 b1 n1 c1 b2 n2 c2 b3 n3 c3 b4 n4 c4 (l02.trans l3) q3
            clear p3 p4
            rw [decide_eq_true hte]
            cbv
            exact hfin
  · have hDe : D = (d1, e) := by rw [← hD]; exact change_refused hH he _
    subst hDe
    have hfin := hk h1 b1 n1 c1 b2 n2 c2 b3 n3 c3 b4 n4 c4 l1 q1
    rw [decide_eq_true he]
    cbv
    exact hfin
end Go.S

set_option maxRecDepth 100000
set_option maxHeartbeats 8000000
set_option linter.unusedVariables false
set_option linter.unusedSimpArgs false
namespace Go.S
open Go.Sx Go.Proofs
/-- 'Take', by steps. -/
theorem take_steps {d : DB} {n : Nat} {hd : Hld} {d1 : DB} {i j : Nat} {w : Wrk} {t : Tbl} (h : holdF d hd = (d1, 0)) (g : Granted n hd d1 i w j t) {a : Int} {D : DB × Int} (hD : changeF d hd (doTake ⟨2, a, noS⟩) = D) :
    (t.S.only = true → D = (d1, 19)) ∧ (t.S.only = false → ((w.log.length : Int) ≥ 60 → D = (d1, 4)) ∧ (¬ (w.log.length : Int) ≥ 60 → ∀ T : Tbl × Row × Int, tblTake t ⟨2, a, noS⟩ = T → (T.2.2 ≠ 0 → D = (d1, T.2.2)) ∧ (T.2.2 = 0 → RowOk T.2.1 ∧ D = (⟨d1.tabs.set j T.1, d1.works.set i ⟨w.s, w.log ++ [⟨hd.table, 2, T.2.1⟩], w.marks⟩, d1.holds, d1.waits⟩, 0)))) := by
  rw [change_granted h g] at hD
  obtain ⟨c1, c2, c3, -⟩ := g.sc.tw.ok t (List.mem_of_getElem? g.tj)
  obtain ⟨S, R⟩ := t
  refine ⟨fun ho => ?_, fun ho => ?_⟩
  · have ho : S.only = true := ho
    have e : doTake ⟨2, a, noS⟩ ⟨S, R⟩ = (⟨S, R⟩, ⟨noName, 0, []⟩, 19) := by unfold doTake; rw [if_pos ho]
    rw [e] at hD
    exact hD.symm
  · have ho : S.only = false := ho
    have e : doTake ⟨2, a, noS⟩ ⟨S, R⟩ = ((tblTake ⟨S, R⟩ ⟨2, a, noS⟩).1, ⟨noName, 2, (tblTake ⟨S, R⟩ ⟨2, a, noS⟩).2.1⟩, (tblTake ⟨S, R⟩ ⟨2, a, noS⟩).2.2) := by unfold doTake; rw [if_neg (by simp [ho])]
    rw [e] at hD
    obtain ⟨p, q⟩ := c3.sr.at_ a
    have hq := tblTake_SR (S := S) c2 c3.sr q
    have e1 : (tblTake ⟨S, R⟩ ⟨2, a, noS⟩).2.2 ≠ 19 ∧ ((tblTake ⟨S, R⟩ ⟨2, a, noS⟩).2.2 = 0 → RowOk (tblTake ⟨S, R⟩ ⟨2, a, noS⟩).2.1) := by
      rw [hq]
      by_cases hk : hasK R a p = true
      · rw [if_pos hk]
        refine ⟨by simp, fun _ => ?_⟩
        show RowOk ((R[p]?).getD [])
        unfold hasK at hk
        cases hr : R[p]? with
        | none => rw [hr] at hk; cases hk
        | some row => exact c3.ok row (List.mem_of_getElem? hr)
      · rw [if_neg hk]
        exact ⟨by simp, by simp⟩
    obtain ⟨e1, e2⟩ := e1
    simp only at hD
    rw [decide_eq_true e1, Bool.true_and] at hD
    refine ⟨fun hl => ?_, fun hl T hT => ⟨fun ht => ?_, fun ht => ?_⟩⟩
    · rw [if_pos (decide_eq_true hl)] at hD
      exact hD.symm
    · rw [if_neg (by simpa using hl), hT, if_neg (by simpa using ht)] at hD
      exact hD.symm
    · rw [if_neg (by simpa using hl), hT, if_pos (by simpa using ht)] at hD
      rw [← hD]
      refine ⟨?_, rfl⟩
      rw [← hT]; exact e2 (by rw [hT]; exact ht)
theorem take82 {d : DB} {h : Heap} {b1 b2 b3 b4 : Option Addr} {n1 c1 n2 c2 n3 c3 n4 c4 : Nat} (q : RP h b1 n1 c1 b2 n2 c2 b3 n3 c3 b4 n4 c4 d) (hC : SC d) {n : Nat} (hO : Okd n d) (hn : n ≤ 2 ^ 16) (s : Int) (nm : ByteArray) (a : Int) (hs : -2 ^ 63 ≤ s ∧ s < 2 ^ 63)
    {D : DB × Int} (hD : takeF d s nm ⟨2, a, noS⟩ = D) {k : Value → Heap → Prop} (hk : RK h D.1 D.2 k) :
    Ct 82 [.agg #[.slice b1 n1 c1, .slice b2 n2 c2, .slice b3 n3 c3, .slice b4 n4 c4], .int .i64 s, .string nm, .agg #[.int .i64 2, .int .i64 a, .string noS]] h k := by
  obtain ⟨A, hA⟩ := Ar.ex
  have hD : changeF d ⟨s, nm, true⟩ (doTake ⟨2, a, noS⟩) = D := hD
  obtain ⟨⟨d1, e⟩, hH⟩ : ∃ X, holdF d ⟨s, nm, true⟩ = X := ⟨_, rfl⟩
  have n00 : A .icm .neq e 0 = decide (e ≠ 0) := icm_neq A ..
  refine fn_of_sx A (tabOk T82.plan T82.pub) Tryz.func82 rfl (by kernel_rfl) ?_
  cbv
  refine hold79 q hC hO hn ⟨s, nm, true⟩ hs hH (fun h1 b1 n1 c1 b2 n2 c2 b3 n3 c3 b4 n4 c4 l1 q1 => ?_)
  have q1 : RP h1 b1 n1 c1 b2 n2 c2 b3 n3 c3 b4 n4 c4 d1 := q1
  cbv
  rw [n00]
  by_cases he : e = 0
  · subst he
    obtain ⟨i, ⟨ws, wl, wm⟩, j, ⟨⟨tn, tc, tk, to_⟩, R⟩, g⟩ := hold_granted hC hO hs hH
    obtain ⟨p0, p2⟩ := take_steps hH g hD
    have hI1 : SI d1 := g.sc.si g.ok (by omega)
    obtain ⟨t1, t2, t3, -⟩ := g.sc.tw.ok _ (List.mem_of_getElem? g.tj)
    have t1 : tc = shColsE := t1
    have t2 : tk = 0 := t2
    have t3 : SO R := t3
    subst t1 t2
    have hws : ws = s := g.ws
    have htn : tn = nm := g.tn
    have wi := g.wi
    have tj := g.tj
    have hun := work_uniq hI1.srt wi
    have hwl : d1.works.length ≤ 8 := works_len hI1.srt hI1.rng
    have htl : d1.tabs.length ≤ 8 := hI1.tw.le
    have hlog := (hI1.log _ (List.mem_of_getElem? wi)).2
    have hlog : wl.length ≤ 60 := hlog
    have hil : i < d1.works.length := (List.getElem?_eq_some_iff.1 wi).1
    have hjl : j < d1.tabs.length := (List.getElem?_eq_some_iff.1 tj).1
    have p0 : to_ = true → D = (d1, 19) := p0
    have p1 : to_ = false → (wl.length : Int) ≥ 60 → D = (d1, 4) := fun h => (p2 h).1
    have p2 : to_ = false → ¬ (wl.length : Int) ≥ 60 → ∀ T : Tbl × Row × Int, tblTake ⟨⟨tn, shColsE, 0, to_⟩, R⟩ ⟨2, a, noS⟩ = T → (T.2.2 ≠ 0 → D = (d1, T.2.2)) ∧ (T.2.2 = 0 → RowOk T.2.1 ∧ D = (⟨d1.tabs.set j T.1, d1.works.set i ⟨ws, wl ++ [⟨nm, 2, T.2.1⟩], wm⟩, d1.holds, d1.waits⟩, 0)) := fun h => (p2 h).2
    have hn2 : n2 = d1.works.length := q1.works.len
    have hn1 : n1 = d1.tabs.length := q1.tabs.len
    have hin : i < n2 := by omega
    have hjn : j < n1 := by omega
    have hT30 : d1.tabs.length ≤ 2 ^ 30 := by omega
    have hW30 : d1.works.length ≤ 2 ^ 30 := by omega
    have hl30 : wl.length ≤ 2 ^ 30 := by omega
    have hn20 : 0 < n2 := by omega
    have hn10 : 0 < n1 := by omega
    have hRl : R.length ≤ 200 := t3.le
    clear hD
    rw [decide_eq_false (by simp)]
    cbv
    refine (find25 q1).mono (fun v h2 hR => ?_)
    obtain ⟨l2, z2, rfl, hidx2⟩ := hR
    have q2 := q1.mono l2
    rcases tab_idx hI1.tw.srt hidx2 with ⟨-, -, hno⟩ | ⟨j', t', hz2, ht', hnm, -, -⟩
    · exact absurd htn (hno _ (List.mem_of_getElem? tj))
    · obtain rfl : j' = j := by
        obtain ⟨a1, -⟩ := tab_at hI1.tw.srt ht'
        obtain ⟨a2, -⟩ := tab_at hI1.tw.srt tj
        rw [hnm] at a1
        have a2 : bsI (tabCmps d1.tabs tn) = j := a2
        rw [htn] at a2
        omega
      have hck2 : b1.isSome = true ∧ 0 ≤ z2 ∧ z2 < (n1 : Int) := ⟨q2.tabs.isSm hn10, hz2.ix hjn⟩
      have hze2 := hz2.eq
      have l02 := l1.trans l2
      clear hidx2
      cbv
      refine ⟨hck2, ?_⟩
      cbv
      refine q2.tabs.loadFF tj hze2 (o1 := 0) (o2 := 3) (m := 1) (by decide) (fun cs hcs => ?_)
      obtain ⟨x1, y1, z1, x2, y2, z3, rfl, s1, s2⟩ := hcs
      cbv
      cases to_ with
      | true =>
        have hDe := p0 rfl
        subst hDe
        have hfin := hk h2 b1 n1 c1 b2 n2 c2 b3 n3 c3 b4 n4 c4 l02 q2
        clear p0 p1 p2
        cbv
        exact hfin
      | false =>
        have p1 := p1 rfl
        have p2 := p2 rfl
        clear p0
        cbv
        refine who39 q2 s (fun z hidx => ?_)
        rcases work_idx hI1 hs hidx with ⟨-, hb⟩ | ⟨i', w', hz, hw', hws', -, -⟩
        · have := (work_iff hI1.srt hI1.rng hs).2 ⟨_, List.mem_of_getElem? wi, hws⟩
          rw [hb] at this; cases this
        · obtain rfl : i' = i := hun i' w' hw' (by rw [hws']; exact hws.symm)
          have hck : b2.isSome = true ∧ 0 ≤ z ∧ z < (n2 : Int) := ⟨q1.works.isSm hn20, hz.ix hin⟩
          have hze := hz.eq
          clear hidx
          cbv
          refine ⟨hck, ?_⟩
          cbv
          refine q2.works.loadF wi hze (o := 1) (m := 1) (by decide) (fun cs hcs => ?_)
          obtain ⟨u1, v1, w1, u2, v2, w2, rfl, sl, -⟩ := hcs
          have hv1 : v1 = wl.length := sl.len
          have f60 : A .icm .geq (A .nat v1) 60 = decide ((wl.length : Int) ≥ 60) := by rw [icm_geq A, hA.nat, hv1]; rfl
          cbv
          rw [f60]
          by_cases h60 : (wl.length : Int) ≥ 60
          · have hDe := p1 h60
            subst hDe
            have hfin := hk h2 b1 n1 c1 b2 n2 c2 b3 n3 c3 b4 n4 c4 l02 q2
            clear p1 p2
            rw [decide_eq_true h60]
            cbv
            exact hfin
          · obtain ⟨T, hT⟩ : ∃ T, tblTake ⟨⟨tn, shColsE, 0, false⟩, R⟩ ⟨2, a, noS⟩ = T := ⟨_, rfl⟩
            obtain ⟨p3, p4⟩ := p2 h60 T hT
            have hTS : T.1.S = ⟨tn, shColsE, 0, false⟩ := by rw [← hT]; exact tblTake_S _ _
            clear p1 p2
            rw [decide_eq_false h60]
            cbv
            refine ⟨hck2, ?_⟩
            cbv
            refine q2.tabs.load tj hze2 (fun cs hcs => ?_)
            obtain ⟨x1, y1, z1, x2, y2, z3, rfl, s1, s2⟩ := hcs
            have s1 : Sl 104 shCol h2 (.slice x1 y1 z1) shColsE := s1
            have s2 : Sl 63 shRow h2 (.slice x2 y2 z3) R := s2
            obtain ⟨TT, tr, te⟩ := T
            obtain ⟨TS, TR⟩ := TT
            have hTS : TS = ⟨tn, shColsE, 0, false⟩ := hTS
            subst hTS
            cbv
            refine take133 s2 t3.sr hRl a hT (fun h3 x3 y3 w3 x4 y4 w4 l3 s3 s4 => ?_)
            have s3 : Sl 63 shRow h3 (.slice x3 y3 w3) TR := s3
            have s4 : Sl 68 shVal h3 (.slice x4 y4 w4) tr := s4
            have q3 := q2.mono l3
            have fte : A .icm .neq te 0 = decide (te ≠ 0) := icm_neq A ..
            have p3 : te ≠ 0 → D = (d1, te) := p3
            have p4 : te = 0 → RowOk tr ∧ D = (⟨d1.tabs.set j' ⟨⟨tn, shColsE, 0, false⟩, TR⟩, d1.works.set i' ⟨ws, wl ++ [⟨nm, 2, tr⟩], wm⟩, d1.holds, d1.waits⟩, 0) := p4
            cbv
            rw [fte]
            by_cases hte : te = 0
            · obtain ⟨hro, hDe⟩ := p4 hte
              subst hDe
              have hrl : tr.length = 2 := by obtain ⟨a, v, rfl, -⟩ := hro; rfl
              have l03 := l02.trans l3
              clear p3 p4
              rw [decide_eq_false (by simpa using hte)]
              cbv
              refine set132 q3 hT30 hz2 hjl (s1.mono (l3.t _)) s3 (fun h4 b1 n1 c1 b2 n2 c2 b3 n3 c3 b4 n4 c4 l4 q4 => ?_)
              cbv
              refine note131 q4 hW30 wi hws (fun j y hy he => hun j y hy (by rw [he]; exact hws.symm)) hl30 (x := ⟨nm, 2, tr⟩) (s4.mono (l4.t _)) hrl (fun h5 b1 n1 c1 b2 n2 c2 b3 n3 c3 b4 n4 c4 l5 q5 => ?_)
              have hfin := hk h5 b1 n1 c1 b2 n2 c2 b3 n3 c3 b4 n4 c4 ((l03.trans l4).trans l5) q5
              cbv
              exact hfin
            · have hDe := p3 hte
              subst hDe
              have hfin := hk h3 b1 n1 c1 b2 n2 c2 b3 n3 c3 b4 n4 c4 (l02.trans l3) q3
              clear p3 p4
              rw [decide_eq_true hte]
              cbv
              exact hfin
  · have hDe : D = (d1, e) := by rw [← hD]; exact change_refused hH he _
    subst hDe
    have hfin := hk h1 b1 n1 c1 b2 n2 c2 b3 n3 c3 b4 n4 c4 l1 q1
    rw [decide_eq_true he]
    cbv
    exact hfin
end Go.S

set_option maxRecDepth 100000
set_option maxHeartbeats 8000000
set_option linter.unusedVariables false
set_option linter.unusedSimpArgs false
namespace Go.S
open Go.Sx Go.Proofs
theorem rows37 {d : DB} {h : Heap} {b1 b2 b3 b4 : Option Addr} {n1 c1 n2 c2 n3 c3 n4 c4 : Nat} (q : RP h b1 n1 c1 b2 n2 c2 b3 n3 c3 b4 n4 c4 d) (hC : SC d) {n : Nat} (hO : Okd n d) (hn : n ≤ 2 ^ 16) (s : Int) (nm : ByteArray) (hs : -2 ^ 63 ≤ s ∧ s < 2 ^ 63)
    {D : DB × List Row × Int} (hD : rowsD d s nm = D) {k : Value → Heap → Prop}
    (hk : ∀ h' b1 n1 c1 b2 n2 c2 b3 n3 c3 b4 n4 c4 rb rn rc, Le h h' → RP h' b1 n1 c1 b2 n2 c2 b3 n3 c3 b4 n4 c4 D.1 → Sl 63 shRow h' (.slice rb rn rc) D.2.1 → k (.tuple #[.agg #[.slice b1 n1 c1, .slice b2 n2 c2, .slice b3 n3 c3, .slice b4 n4 c4], .slice rb rn rc, .int .i64 D.2.2]) h') :
    Ct 37 [.agg #[.slice b1 n1 c1, .slice b2 n2 c2, .slice b3 n3 c3, .slice b4 n4 c4], .int .i64 s, .string nm] h k := by
  obtain ⟨A, hA⟩ := Ar.ex
  obtain ⟨⟨d1, e⟩, hH⟩ : ∃ X, holdF d ⟨s, nm, false⟩ = X := ⟨_, rfl⟩
  have n00 : A .icm .neq e 0 = decide (e ≠ 0) := icm_neq A ..
  unfold rowsD at hD
  rw [hH] at hD
  refine fn_of_sx A (tabOk T37.plan T37.pub) Tryz.func37 rfl (by kernel_rfl) ?_
  cbv
  refine hold79 q hC hO hn ⟨s, nm, false⟩ hs hH (fun h1 b1 n1 c1 b2 n2 c2 b3 n3 c3 b4 n4 c4 l1 q1 => ?_)
  have q1 : RP h1 b1 n1 c1 b2 n2 c2 b3 n3 c3 b4 n4 c4 d1 := q1
  cbv
  rw [n00]
  by_cases he : e = 0
  · subst he
    obtain ⟨i, w, j, ⟨⟨tn, tc, tk, to_⟩, R⟩, g⟩ := hold_granted hC hO hs hH
    have hI1 : SI d1 := g.sc.si g.ok (by omega)
    obtain ⟨t1, t2, t3, -⟩ := g.sc.tw.ok _ (List.mem_of_getElem? g.tj)
    have t1 : tc = shColsE := t1
    have t2 : tk = 0 := t2
    have t3 : SO R := t3
    subst t1 t2
    have htn : tn = nm := g.tn
    have tj := g.tj
    have bj : bsI (tabCmps d1.tabs nm) = j := g.bj
    have hDe : D = (d1, R, 0) := by
      rw [← hD]
      simp only [ne_eq, not_true_eq_false, decide_false, Bool.false_eq_true, if_false]
      rw [bj, tj]
    subst hDe
    have htl : d1.tabs.length ≤ 8 := hI1.tw.le
    have hjl : j < d1.tabs.length := (List.getElem?_eq_some_iff.1 tj).1
    have hn1 : n1 = d1.tabs.length := q1.tabs.len
    have hjn : j < n1 := by omega
    have hn10 : 0 < n1 := by omega
    have hRl : R.length ≤ 200 := t3.le
    clear hD
    rw [decide_eq_false (by simp)]
    cbv
    refine (find25 q1).mono (fun v h2 hR => ?_)
    obtain ⟨l2, z2, rfl, hidx2⟩ := hR
    have q2 := q1.mono l2
    rcases tab_idx hI1.tw.srt hidx2 with ⟨-, -, hno⟩ | ⟨j', t', hz2, ht', hnm, -, -⟩
    · exact absurd htn (hno _ (List.mem_of_getElem? tj))
    · obtain rfl : j' = j := by
        obtain ⟨a1, -⟩ := tab_at hI1.tw.srt ht'
        rw [hnm] at a1
        omega
      have hck2 : b1.isSome = true ∧ 0 ≤ z2 ∧ z2 < (n1 : Int) := ⟨q2.tabs.isSm hn10, hz2.ix hjn⟩
      have hze2 := hz2.eq
      have l02 := l1.trans l2
      clear hidx2
      cbv
      refine ⟨hck2, ?_⟩
      cbv
      refine q2.tabs.load tj hze2 (fun cs hcs => ?_)
      obtain ⟨x1, y1, z1, x2, y2, z3, rfl, s1, s2⟩ := hcs
      have s2 : Sl 63 shRow h2 (.slice x2 y2 z3) R := s2
      cbv
      refine range80 s2 t3.sr hRl (fun h3 x3 y3 w3 l3 s3 => ?_)
      have hfin := hk h3 b1 n1 c1 b2 n2 c2 b3 n3 c3 b4 n4 c4 x3 y3 w3 (l02.trans l3) (q2.mono l3) s3
      cbv
      exact hfin
  · have hDe : D = (d1, [], e) := by rw [← hD, if_pos (decide_eq_true he)]
    subst hDe
    have hfin := hk h1 b1 n1 c1 b2 n2 c2 b3 n3 c3 b4 n4 c4 none 0 0 l1 q1 Sl.nil
    rw [decide_eq_true he]
    cbv
    exact hfin
end Go.S

set_option maxRecDepth 100000
set_option maxHeartbeats 8000000
set_option linter.unusedVariables false
set_option linter.unusedSimpArgs false
namespace Go.S
open Go.Sx Go.Proofs
theorem rsame42 {d : DB} {h : Heap} {b1 b2 b3 b4 e1 e2 e3 e4 : Option Addr} {n1 c1 n2 c2 n3 c3 n4 c4 m1 f1 m2 f2 m3 f3 m4 f4 : Nat} (q : RP h b1 n1 c1 b2 n2 c2 b3 n3 c3 b4 n4 c4 d) (p : RP h e1 m1 f1 e2 m2 f2 e3 m3 f3 e4 m4 f4 d) {k : Value → Heap → Prop} (hk : k (.bool true) h) :
    Ct 42 [.agg #[.slice b1 n1 c1, .slice b2 n2 c2, .slice b3 n3 c3, .slice b4 n4 c4], .agg #[.slice e1 m1 f1, .slice e2 m2 f2, .slice e3 m3 f3, .slice e4 m4 f4]] h k := by
  obtain ⟨A, hA⟩ := Ar.ex
  have hl1 : n1 = d.tabs.length := q.tabs.len
  have hl2 : n2 = d.works.length := q.works.len
  have hm1 : m1 = d.tabs.length := p.tabs.len
  have hm2 : m2 = d.works.length := p.works.len
  have hbd := q.tabs.bound.1
  have hbd2 := q.works.bound.1
  have hnot1 : A .not true = false := by rw [hA.not]; rfl
  have nn1 : A .icm .neq (A .nat n1) (A .nat m1) = false := by rw [hl1, hm1, icm_neq A]; simp
  have nn2 : A .icm .neq (A .nat n2) (A .nat m2) = false := by rw [hl2, hm2, icm_neq A]; simp
  refine fn_of_sx A (tabOk T42.plan T42.pub) Tryz.func42 rfl (by kernel_rfl) ?_
  cbv
  rw [nn1]
  cbv
  rw [nn2]
  cbv
  refine rsame91 q.holds p.holds q.waits p.waits ?_
  cbv
  rw [hnot1]
  cbv
  refine LoopX.go (G := Int) (fun g => [(5, .v (.int .i64 g))]) (fun _ => [(2, [.slice b1 n1 c1, .slice b2 n2 c2, .slice b3 n3 c3, .slice b4 n4 c4]), (3, [.slice e1 m1 f1, .slice e2 m2 f2, .slice e3 m3 f3, .slice e4 m4 f4])]) (fun m g h' => h' = h ∧ ∃ i, IsN g i ∧ m = n1 - i ∧ i ≤ n1) n1 0 ⟨?_, ?_, ?_⟩ ⟨rfl, 0, ⟨rfl⟩, by omega, by omega⟩ ?_
  · cbv
  · cbv
  · cbv
  · intro m g h' hI
    cbv
    obtain ⟨rfl, i, hz, hm, hi⟩ := hI
    refine bsel_mk (fun hc => ?_) (fun hc => ?_)
    · have hlt := hz.lt hc
      clear hc
      have hze := hz.eq
      have hnx := hz.succ (A := A) (by omega)
      obtain ⟨⟨⟨tn, tc, tk, to_⟩, R⟩, hx⟩ := get_ex (xs := d.tabs) (i := i) (by omega)
      have ck1 : b1.isSome = true ∧ 0 ≤ g ∧ g < (n1 : Int) := ⟨q.tabs.isSm (by omega), hz.ix (by omega)⟩
      have ck2 : e1.isSome = true ∧ 0 ≤ g ∧ g < (m1 : Int) := ⟨p.tabs.isSm (by omega), hz.ix (by omega)⟩
      cbv
      refine ⟨ck1, ?_⟩
      cbv
      refine q.tabs.load hx hze (fun cs hcs => ?_)
      obtain ⟨x1, x2, x3, x4, x5, x6, rfl, s1, s3⟩ := hcs
      cbv
      refine ⟨ck2, ?_⟩
      cbv
      refine p.tabs.load hx hze (fun cs hcs => ?_)
      obtain ⟨y1, y2, y3, y4, y5, y6, rfl, s2, s4⟩ := hcs
      cbv
      refine rsame92 (nm := tn) (key := tk) (only := to_) (cols := tc) (rows := R) s1 s2 s3 s4 ?_
      cbv
      rw [hnot1]
      cbv
      refine ⟨n1 - (i + 1), _, by omega, ⟨?_, ?_, ?_⟩, rfl, i + 1, hnx, rfl, by omega⟩
      · cbv
      · cbv
      · cbv
    · cbv
      refine LoopX.go (G := Int) (fun g => [(6, .v (.int .i64 g))]) (fun _ => [(2, [.slice b1 n1 c1, .slice b2 n2 c2, .slice b3 n3 c3, .slice b4 n4 c4]), (3, [.slice e1 m1 f1, .slice e2 m2 f2, .slice e3 m3 f3, .slice e4 m4 f4])]) (fun m g h2 => h2 = h' ∧ ∃ i, IsN g i ∧ m = n2 - i ∧ i ≤ n2) n2 0 ⟨?_, ?_, ?_⟩ ⟨rfl, 0, ⟨rfl⟩, by omega, by omega⟩ ?_
      · cbv
      · cbv
      · cbv
      · intro m g h2 hI
        cbv
        obtain ⟨rfl, i, hz, hm, hi⟩ := hI
        refine bsel_mk (fun hc => ?_) (fun hc => ?_)
        · have hlt := hz.lt hc
          clear hc
          have hze := hz.eq
          have hnx := hz.succ (A := A) (by omega)
          obtain ⟨⟨ws, wl, wm⟩, hx⟩ := get_ex (xs := d.works) (i := i) (by omega)
          have ck1 : b2.isSome = true ∧ 0 ≤ g ∧ g < (n2 : Int) := ⟨q.works.isSm (by omega), hz.ix (by omega)⟩
          have ck2 : e2.isSome = true ∧ 0 ≤ g ∧ g < (m2 : Int) := ⟨p.works.isSm (by omega), hz.ix (by omega)⟩
          cbv
          refine ⟨ck1, ?_⟩
          cbv
          refine q.works.load hx hze (fun cs hcs => ?_)
          obtain ⟨x1, x2, x3, x4, x5, x6, rfl, s1, s3⟩ := hcs
          cbv
          refine ⟨ck2, ?_⟩
          cbv
          refine p.works.load hx hze (fun cs hcs => ?_)
          obtain ⟨y1, y2, y3, y4, y5, y6, rfl, s2, s4⟩ := hcs
          cbv
          refine rsame93 (s := ws) (L := wl) (M := wm) s1 s2 s3 s4 ?_
          cbv
          rw [hnot1]
          cbv
          refine ⟨n2 - (i + 1), _, by omega, ⟨?_, ?_, ?_⟩, rfl, i + 1, hnx, rfl, by omega⟩
          · cbv
          · cbv
          · cbv
        · cbv
          exact hk
end Go.S

