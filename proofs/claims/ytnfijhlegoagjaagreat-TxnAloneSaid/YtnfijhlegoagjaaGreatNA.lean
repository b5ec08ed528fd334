import Derived.Test.YtnfijhlegoagjaaGreatMB
set_option linter.unusedVariables false
set_option linter.unusedSimpArgs false
set_option linter.unusedSectionVars false
set_option maxRecDepth 100000
set_option maxHeartbeats 8000000
set_option linter.unusedVariables false
set_option linter.unusedSimpArgs false
namespace Go.S
open Go.Sx Go.Proofs
theorem SC.okd {d : DB} (q : SC d) {n : Nat} (hH : d.holds.length ≤ n) (hW : d.waits.length ≤ n) : Okd n d := by
  refine ⟨?_, q.srt, q.rng, fun t ht => ?_, hH, hW, fun x hx => ?_⟩
  · have := q.tw.le; omega
  · have := (q.tw.ok t ht).2.2.1.le; omega
  · obtain ⟨w, hw, he⟩ := q.hw x hx
    have := q.rng w hw
    omega
theorem cmpL_trans : ∀ a b c : List UInt8, Lib.compareBytes a b < 0 → Lib.compareBytes b c < 0 → Lib.compareBytes a c < 0
  | [], _, [], h1, h2 => by
    rename_i b
    cases b with
    | nil => simp [Lib.compareBytes] at h1
    | cons y b => simp [Lib.compareBytes] at h2
  | [], _, z :: c, h1, h2 => by simp [Lib.compareBytes]
  | x :: a, [], _, h1, h2 => by simp [Lib.compareBytes] at h1
  | x :: a, y :: b, [], h1, h2 => by simp [Lib.compareBytes] at h2
  | x :: a, y :: b, z :: c, h1, h2 => by
    have ih := cmpL_trans a b c
    unfold Lib.compareBytes at h1 h2 ⊢
    have lt : ∀ p q : UInt8, p < q ↔ p.toNat < q.toNat := fun p q => UInt8.lt_iff_toNat_lt
    by_cases a1 : x < y
    · rw [if_pos a1] at h1
      by_cases b1 : y < z
      · have : x < z := by rw [lt] at a1 b1 ⊢; omega
        rw [if_pos this]; decide
      · rw [if_neg b1] at h2
        by_cases b2 : z < y
        · rw [if_pos b2] at h2; exact absurd h2 (by decide)
        · have : x < z := by rw [lt] at a1 b1 b2 ⊢; omega
          rw [if_pos this]; decide
    · rw [if_neg a1] at h1
      by_cases a2 : y < x
      · rw [if_pos a2] at h1; exact absurd h1 (by decide)
      · rw [if_neg a2] at h1
        have e : x = y := by rw [lt] at a1 a2; exact UInt8.toNat_inj.1 (by omega)
        subst e
        by_cases b1 : x < z
        · rw [if_pos b1]; decide
        · rw [if_neg b1] at h2 ⊢
          by_cases b2 : z < x
          · rw [if_pos b2] at h2; exact absurd h2 (by decide)
          · rw [if_neg b2] at h2 ⊢
            exact ih h1 h2
theorem cmpB_trans {a b c : ByteArray} (h1 : cmpB a b < 0) (h2 : cmpB b c < 0) : cmpB a c < 0 := by
  unfold cmpB at *
  exact cmpL_trans _ _ _ h1 h2
theorem tw_mem {α : Type} {p : α → Bool} {x : α} : ∀ {l : List α}, x ∈ l.takeWhile p → p x = true
  | [], h => by cases h
  | y :: r, h => by
    cases hp : p y with
    | true =>
      rw [List.takeWhile_cons_of_pos hp] at h
      rcases List.mem_cons.1 h with rfl | h
      · exact hp
      · exact tw_mem h
    | false =>
      rw [List.takeWhile_cons_of_neg (by rw [hp]; simp)] at h
      cases h
theorem tw_next {α : Type} {p : α → Bool} {x : α} : ∀ {l : List α}, l[(l.takeWhile p).length]? = some x → p x = false
  | [], h => by simp at h
  | y :: r, h => by
    cases hp : p y with
    | true =>
      rw [List.takeWhile_cons_of_pos hp, List.length_cons] at h
      exact tw_next (l := r) (by simpa using h)
    | false =>
      rw [List.takeWhile_cons_of_neg (by rw [hp]; simp)] at h
      simp at h
      rw [← h]; exact hp
/-- Where a name would stand. -/
theorem tab_pos {T : List Tbl} (h : T.Pairwise (fun a b => cmpB a.S.name b.S.name < 0)) (nm : ByteArray) :
    bsI (tabCmps T nm) = refPos T nm ∧ refPos T nm ≤ T.length ∧ (∀ t ∈ T.take (refPos T nm), cmpB t.S.name nm < 0) ∧ ∀ t ∈ T.drop (refPos T nm), ¬ cmpB t.S.name nm < 0 := by
  have hl : (tabCmps T nm).length = T.length := by simp [tabCmps]
  have get : ∀ (j : Nat) (t : Tbl), T[j]? = some t → (tabCmps T nm).getD j 0 = cmpB t.S.name nm := fun j t ht => by
    rw [List.getD_eq_getElem?_getD]; unfold tabCmps; rw [List.getElem?_map, ht]; rfl
  have hple : refPos T nm ≤ T.length := (List.takeWhile_sublist _).length_le
  have htk : T.take (refPos T nm) = T.takeWhile fun t => decide (cmpB t.S.name nm < 0) := by
    unfold refPos
    exact (List.prefix_iff_eq_take.1 (List.takeWhile_prefix _)).symm
  have hlow : ∀ t ∈ T.take (refPos T nm), cmpB t.S.name nm < 0 := fun t ht => by
    rw [htk] at ht
    have := tw_mem ht
    exact of_decide_eq_true this
  have hhi0 : ∀ t, T[refPos T nm]? = some t → ¬ cmpB t.S.name nm < 0 := fun t ht => by
    have := tw_next (p := fun t : Tbl => decide (cmpB t.S.name nm < 0)) ht
    exact of_decide_eq_false this
  have hhi : ∀ (j : Nat) (t : Tbl), refPos T nm ≤ j → T[j]? = some t → ¬ cmpB t.S.name nm < 0 := fun j t hj ht => by
    rcases Nat.eq_or_lt_of_le hj with e | hlt
    · subst e; exact hhi0 t ht
    · have hjl := (List.getElem?_eq_some_iff.1 ht).1
      obtain ⟨t0, ht0⟩ := get_ex (xs := T) (i := refPos T nm) (by omega)
      intro hneg
      have := List.pairwise_iff_getElem.1 h _ j (List.getElem?_eq_some_iff.1 ht0).1 hjl hlt
      rw [(List.getElem?_eq_some_iff.1 ht0).2, (List.getElem?_eq_some_iff.1 ht).2] at this
      exact hhi0 t0 ht0 (cmpB_trans this hneg)
  refine ⟨?_, hple, hlow, fun t ht => ?_⟩
  · unfold bsI
    refine bsAt_eq _ _ (fun j hj => ?_) 0 _ (fun j h1 h2 => ?_) (Nat.zero_le _) (by omega)
    · obtain ⟨t, ht⟩ := get_ex (xs := T) (i := j) (by omega)
      rw [get j t ht]
      exact hlow t (List.mem_of_getElem? (by rw [List.getElem?_take, if_pos hj]; exact ht))
    · obtain ⟨t, ht⟩ := get_ex (xs := T) (i := j) (by omega)
      rw [get j t ht]
      have := hhi j t h1 ht
      omega
  · obtain ⟨j, hj⟩ := List.getElem?_of_mem ht
    rw [List.getElem?_drop] at hj
    exact hhi _ t (by omega) hj
theorem tab_any {T : List Tbl} (h : T.Pairwise (fun a b => cmpB a.S.name b.S.name < 0)) (nm : ByteArray) : bsB (tabCmps T nm) = T.any (fun t => decide (t.S.name = nm)) := by
  cases ha : T.any (fun t => decide (t.S.name = nm)) with
  | true =>
    obtain ⟨t, ht, he⟩ := List.any_eq_true.1 ha
    have he := of_decide_eq_true he
    obtain ⟨i, hi⟩ := List.getElem?_of_mem ht
    have := (tab_at h hi).2
    rw [he] at this
    exact this
  | false =>
    refine tab_none (fun t ht => ?_)
    have := List.any_eq_false.1 ha t ht
    simpa using this
/-- The document makes a table where the program does. -/
theorem create_ref {d : DB} (h : TW d.tabs) (s : Sch) : createD d s = refCreate d s := by
  obtain ⟨h1, -, -, -⟩ := tab_pos h.srt s.name
  have h2 := tab_any h.srt s.name
  unfold createD createR createE refCreate
  rw [h1, h2]
  have c1 : ((8 : Int) ≤ (d.tabs.length : Int)) ↔ 8 ≤ d.tabs.length := by omega
  have c2 : ((0 : Int) < (d.works.length : Int)) ↔ 0 < d.works.length := by omega
  generalize d.tabs.any (fun t => decide (t.S.name = s.name)) = u
  by_cases a : schErr s = 0
  · cases u with
    | true => simp [a]
    | false =>
      by_cases c : 8 ≤ d.tabs.length
      · simp [a, c, c1]
      · by_cases e : 0 < d.works.length
        · simp only [a, c, c1, c2, e, ne_eq, not_true_eq_false, if_false, ge_iff_le, gt_iff_lt, decide_false, decide_true, Bool.false_eq_true, if_true]
          rfl
        · simp only [a, c, c1, c2, e, ne_eq, not_true_eq_false, if_false, ge_iff_le, gt_iff_lt, decide_false, decide_true, Bool.false_eq_true, if_true]
  · simp [a]
theorem works_nil {W : List Wrk} (h : ¬ decide ((W.length : Int) > 0) = true) : W = [] := by
  rw [decide_eq_true_iff] at h
  exact List.eq_nil_of_length_eq_zero (by omega)
theorem create_SC {d : DB} (q : SC d) {s : Sch} (h1 : s.cols = shColsE) (h2 : s.key = 0) (h3 : s.name.size ≤ 12) : SC (refCreate d s).1 ∧ (refCreate d s).1.holds = d.holds ∧ (refCreate d s).1.waits = d.waits ∧ (refCreate d s).1.works = d.works := by
  unfold refCreate
  split
  · exact ⟨q, rfl, rfl, rfl⟩
  · split
    · exact ⟨q, rfl, rfl, rfl⟩
    · rename_i ha
      split
      · exact ⟨q, rfl, rfl, rfl⟩
      · rename_i hb
        split
        · exact ⟨q, rfl, rfl, rfl⟩
        · rename_i hc
          have hb : d.tabs.length < 8 := by simp at hb; omega
          have hc : d.works = [] := works_nil hc
          obtain ⟨-, p1, p2, p3⟩ := tab_pos q.tw.srt s.name
          have hTW : TW (d.tabs.take (refPos d.tabs s.name) ++ [(⟨s, []⟩ : Tbl)] ++ d.tabs.drop (refPos d.tabs s.name)) := ?_
          · exact ⟨⟨hTW, q.srt, q.rng, fun w hw => (by
              have hw : w ∈ d.works := hw
              rw [hc] at hw; cases hw), q.mks, q.hu, q.hw, q.hc, q.lg⟩, rfl, rfl, rfl⟩
          refine ⟨?_, fun t ht => ?_, ?_⟩
          · show (d.tabs.take (refPos d.tabs s.name) ++ [(⟨s, []⟩ : Tbl)] ++ d.tabs.drop (refPos d.tabs s.name)).Pairwise _
            have hsplit := q.tw.srt
            rw [← List.take_append_drop (refPos d.tabs s.name) d.tabs, List.pairwise_append] at hsplit
            obtain ⟨s1, s2, s3⟩ := hsplit
            rw [List.append_assoc, List.pairwise_append]
            refine ⟨s1, ?_, fun a ha b hb => ?_⟩
            · rw [List.singleton_append, List.pairwise_cons]
              refine ⟨fun b hb => ?_, s2⟩
              have h5 := p3 b hb
              rw [cmpB_neg]
              have hne : cmpB b.S.name s.name ≠ 0 := fun e => by
                have := cmpB_zero e
                exact ha (List.any_eq_true.2 ⟨b, List.mem_of_mem_drop hb, decide_eq_true this⟩)
              show - cmpB b.S.name s.name < 0
              omega
            · rcases List.mem_cons.1 (by simpa using hb : b ∈ (⟨s, []⟩ : Tbl) :: d.tabs.drop (refPos d.tabs s.name)) with rfl | hb
              · exact p2 a ha
              · exact s3 a ha b hb
          · have ht : t ∈ d.tabs.take (refPos d.tabs s.name) ++ [(⟨s, []⟩ : Tbl)] ++ d.tabs.drop (refPos d.tabs s.name) := ht
            rcases List.mem_append.1 ht with ht | ht
            · rcases List.mem_append.1 ht with ht | ht
              · exact q.tw.ok t (List.mem_of_mem_take ht)
              · simp at ht
                subst ht
                exact ⟨h1, h2, SO.nil, h3⟩
            · exact q.tw.ok t (List.mem_of_mem_drop ht)
          · show (d.tabs.take (refPos d.tabs s.name) ++ [(⟨s, []⟩ : Tbl)] ++ d.tabs.drop (refPos d.tabs s.name)).length ≤ 8
            simp; omega
theorem drop_SC {d : DB} (q : SC d) (nm : ByteArray) : SC (dropD d nm).1 ∧ (dropD d nm).1.holds = d.holds ∧ (dropD d nm).1.waits = d.waits ∧ (dropD d nm).1.works = d.works := by
  unfold dropD
  split
  · split
    · exact ⟨q, rfl, rfl, rfl⟩
    · rename_i hc
      have hc : d.works = [] := works_nil hc
      have hsub := List.eraseIdx_sublist d.tabs (bsI (tabCmps d.tabs nm))
      refine ⟨⟨⟨q.tw.srt.sublist hsub, fun t ht => q.tw.ok t (hsub.subset ht), Nat.le_trans hsub.length_le q.tw.le⟩, q.srt, q.rng, fun w hw => ?_, q.mks, q.hu, q.hw, q.hc, q.lg⟩, rfl, rfl, rfl⟩
      have hw : w ∈ d.works := hw
      rw [hc] at hw; cases hw
  · exact ⟨q, rfl, rfl, rfl⟩
end Go.S

set_option maxRecDepth 100000
set_option maxHeartbeats 8000000
set_option linter.unusedVariables false
set_option linter.unusedSimpArgs false
namespace Go.S
open Go.Sx Go.Proofs
def Mo (d : DB) : Prop := ∀ w ∈ d.works, w.marks.Pairwise (fun a b => a.at_ ≤ b.at_)
/-- All that a run of sessions keeps. -/
structure SJ (n : Nat) (d : DB) : Prop where
  sc : SC d
  mo : Mo d
  hn : d.holds.length ≤ n
  wn : d.waits.length ≤ n
theorem SJ.okd {n : Nat} {d : DB} (q : SJ n d) : Okd n d := q.sc.okd q.hn q.wn
theorem SJ.le {n m : Nat} {d : DB} (q : SJ n d) (h : n ≤ m) : SJ m d := ⟨q.sc, q.mo, Nat.le_trans q.hn h, Nat.le_trans q.wn h⟩
theorem sj_hold {n : Nat} {d : DB} (q : SJ n d) (hd : Hld) (hs : -2 ^ 63 ≤ hd.s ∧ hd.s < 2 ^ 63) : SJ (n + 1) (holdF d hd).1 := by
  have h := holdF_ok q.okd hd hs
  exact ⟨(holdF_SC q.sc hd hs).1, fun w hw => q.mo w (h.sub.subset hw), h.ok.holds, h.ok.waits⟩
theorem sj_end {n : Nat} {d : DB} (q : SJ n d) {s : Int} (hs : -2 ^ 63 ≤ s ∧ s < 2 ^ 63) : SJ n (rollbackD d s).1 := by
  unfold rollbackD
  split
  · exact ⟨back_SC q.sc hs, fun w hw => q.mo w ((endK_sub _ _).subset hw), Nat.le_trans (wout_len _ _) q.hn, Nat.le_trans (wout_len _ _) q.wn⟩
  · exact q
theorem sj_commit {n : Nat} {d : DB} (q : SJ n d) {s : Int} (hs : -2 ^ 63 ≤ s ∧ s < 2 ^ 63) : SJ n (commitD d s).1 := by
  unfold commitD
  split
  · exact ⟨end_SC q.sc hs q.sc.tw rfl _, fun w hw => q.mo w ((endK_sub _ _).subset hw), Nat.le_trans (wout_len _ _) q.hn, Nat.le_trans (wout_len _ _) q.wn⟩
  · exact q
theorem sj_create {n : Nat} {d : DB} (q : SJ n d) {s : Sch} (h1 : s.cols = shColsE) (h2 : s.key = 0) (h3 : s.name.size ≤ 12) : SJ n (refCreate d s).1 := by
  obtain ⟨a, b, c, e⟩ := create_SC q.sc h1 h2 h3
  exact ⟨a, fun w hw => q.mo w (by rw [← e]; exact hw), by rw [b]; exact q.hn, by rw [c]; exact q.wn⟩
theorem sj_drop {n : Nat} {d : DB} (q : SJ n d) (nm : ByteArray) : SJ n (dropD d nm).1 := by
  obtain ⟨a, b, c, e⟩ := drop_SC q.sc nm
  exact ⟨a, fun w hw => q.mo w (by rw [← e]; exact hw), by rw [b]; exact q.hn, by rw [c]; exact q.wn⟩
theorem begin_pos {d : DB} (hI : SI d) {s : Int} (hs : 0 ≤ s ∧ s < 8) (hb : bsB (wrkC d.works s) = false) : ∃ i, bsI (wrkC d.works s) = i ∧ i ≤ d.works.length ∧ (∀ w ∈ d.works.take i, w.s < s) ∧ ∀ w ∈ d.works.drop i, s < w.s := by
  obtain ⟨i, hi⟩ : ∃ i, i = (d.works.takeWhile fun w => decide (w.s < s)).length := ⟨_, rfl⟩
  have hle : i ≤ d.works.length := by rw [hi]; exact (List.takeWhile_sublist _).length_le
  have htk : d.works.take i = d.works.takeWhile fun w => decide (w.s < s) := by
    rw [hi]
    exact (List.prefix_iff_eq_take.1 (List.takeWhile_prefix _)).symm
  have hlow : ∀ w ∈ d.works.take i, w.s < s := fun w hw => by
    rw [htk] at hw
    have := tw_mem hw
    exact of_decide_eq_true this
  have hnx : ∀ w, d.works[i]? = some w → ¬ w.s < s := fun w hw => by
    rw [hi] at hw
    have := tw_next (p := fun w : Wrk => decide (w.s < s)) hw
    exact of_decide_eq_false this
  have hne : ∀ w ∈ d.works, w.s ≠ s := fun w hw he => by
    have := (work_iff hI.srt hI.rng (s := s) (by omega)).2 ⟨w, hw, he⟩
    rw [hb] at this; cases this
  refine ⟨i, work_pos hI hs hle (fun j w hj hw => hlow w (List.mem_of_getElem? (by rw [List.getElem?_take, if_pos hj]; exact hw))) hnx, hle, hlow, fun w hw => ?_⟩
  obtain ⟨j, hj⟩ := List.getElem?_of_mem hw
  rw [List.getElem?_drop] at hj
  obtain ⟨w0, hw0⟩ := get_ex (xs := d.works) (i := i) (by have := (List.getElem?_eq_some_iff.1 hj).1; omega)
  have h0 := hnx w0 hw0
  have h1 := hne w0 (List.mem_of_getElem? hw0)
  cases j with
  | zero =>
    rw [Nat.add_zero, hw0] at hj; cases hj
    omega
  | succ j =>
    have := List.pairwise_iff_getElem.1 hI.srt i (i + (j + 1)) (List.getElem?_eq_some_iff.1 hw0).1 (List.getElem?_eq_some_iff.1 hj).1 (by omega)
    rw [(List.getElem?_eq_some_iff.1 hw0).2, (List.getElem?_eq_some_iff.1 hj).2] at this
    omega
theorem sj_begin {n : Nat} {d : DB} (q : SJ n d) (hn : n ≤ 2 ^ 17) (s : Int) : SJ n (beginD d s).1 := by
  unfold beginD beginR
  split
  · exact q
  · rename_i h1
    have hs : 0 ≤ s ∧ s < 8 := by simp at h1; omega
    split
    · exact q
    · rename_i h2
      have hb : bsB (wrkC d.works s) = false := by simpa using h2
      obtain ⟨i, hi, hle, hlow, hhi⟩ := begin_pos (q.sc.si q.okd hn) hs hb
      rw [hi]
      have hmem : ∀ w, w ∈ d.works.take i ++ [(⟨s, [], []⟩ : Wrk)] ++ d.works.drop i → w ∈ d.works ∨ w = ⟨s, [], []⟩ := fun w hw => by
        rcases List.mem_append.1 hw with hw | hw
        · rcases List.mem_append.1 hw with hw | hw
          · exact .inl (List.mem_of_mem_take hw)
          · simp at hw; exact .inr hw
        · exact .inl (List.mem_of_mem_drop hw)
      have hin : ∀ w, w ∈ d.works → w ∈ d.works.take i ++ [(⟨s, [], []⟩ : Wrk)] ++ d.works.drop i := fun w hw => by
        rw [← List.take_append_drop i d.works] at hw
        rcases List.mem_append.1 hw with hw | hw
        · exact List.mem_append.2 (.inl (List.mem_append.2 (.inl hw)))
        · exact List.mem_append.2 (.inr hw)
      refine ⟨⟨q.sc.tw, ?_, fun w hw => ?_, fun w hw => ?_, fun w hw => ?_, q.sc.hu, fun x hx => ?_, q.sc.hc, fun w hw c hc => ?_⟩, fun w hw => ?_, q.hn, q.wn⟩
      · show (d.works.take i ++ [(⟨s, [], []⟩ : Wrk)] ++ d.works.drop i).Pairwise _
        have hsplit := q.sc.srt
        rw [← List.take_append_drop i d.works, List.pairwise_append] at hsplit
        obtain ⟨s1, s2, s3⟩ := hsplit
        rw [List.append_assoc, List.pairwise_append]
        refine ⟨s1, ?_, fun a ha b hb => ?_⟩
        · rw [List.singleton_append, List.pairwise_cons]
          exact ⟨fun b hb => hhi b hb, s2⟩
        · rcases List.mem_cons.1 (by simpa using hb : b ∈ (⟨s, [], []⟩ : Wrk) :: d.works.drop i) with rfl | hb
          · exact hlow a ha
          · exact s3 a ha b hb
      · rcases hmem w hw with h | rfl
        · exact q.sc.rng w h
        · exact hs
      · rcases hmem w hw with h | rfl
        · exact q.sc.log w h
        · exact ⟨fun x hx => (by cases hx), by simp⟩
      · rcases hmem w hw with h | rfl
        · exact q.sc.mks w h
        · exact ⟨by simp, fun x hx => (by cases hx)⟩
      · obtain ⟨w, hw, he⟩ := q.sc.hw x hx
        exact ⟨w, hin w hw, he⟩
      · rcases hmem w hw with h | rfl
        · exact q.sc.lg w h c hc
        · cases hc
      · rcases hmem w hw with h | rfl
        · exact q.mo w h
        · exact List.Pairwise.nil
/-- A session's work laid at its place. -/
theorem works_set {d : DB} {i : Nat} {w w' : Wrk} (hi : d.works[i]? = some w) (hs : w'.s = w.s) : (∀ x ∈ d.works.set i w', x ∈ d.works ∨ x = w') ∧ (∀ x ∈ d.works, ∃ y ∈ d.works.set i w', y.s = x.s) ∧ ((d.works.Pairwise (fun a b => a.s < b.s)) → (d.works.set i w').Pairwise (fun a b => a.s < b.s)) := by
  have hil := (List.getElem?_eq_some_iff.1 hi).1
  refine ⟨fun x hx => List.mem_or_eq_of_mem_set hx, fun x hx => ?_, fun h => ?_⟩
  · obtain ⟨j, hj⟩ := List.getElem?_of_mem hx
    by_cases hij : i = j
    · subst hij
      rw [hi] at hj; cases hj
      exact ⟨w', List.mem_iff_getElem?.2 ⟨i, List.getElem?_set_self hil⟩, hs⟩
    · exact ⟨x, List.mem_iff_getElem?.2 ⟨j, by rw [List.getElem?_set_ne hij]; exact hj⟩, rfl⟩
  · rw [List.pairwise_iff_getElem]
    have e : ∀ j (hj : j < (d.works.set i w').length), (d.works.set i w')[j].s = (d.works[j]'(by simpa using hj)).s := fun j hj => by
      rw [List.getElem_set]
      split
      · rename_i e
        subst e
        rw [hs, ← (List.getElem?_eq_some_iff.1 hi).2]
      · rfl
    intro a b ha hb hab
    rw [e a ha, e b hb]
    exact List.pairwise_iff_getElem.1 h a b _ _ hab
/-- A change of a session that holds its table alone. -/
theorem change_SC {n : Nat} {hd : Hld} {d1 : DB} {i j : Nat} {w : Wrk} {t t' : Tbl} (g : Granted n hd d1 i w j t) (hm : Mo d1) (hx : hd.x = true) (hS : t'.S = t.S) (hr : SO t'.rows) {x : Chg} (e1 : x.table = hd.table) (e2 : RowOk x.row) (e3 : x.op = 1 ∨ x.op = 2) (hl : w.log.length < 60) :
    SJ (n + 1) ⟨d1.tabs.set j t', d1.works.set i ⟨w.s, w.log ++ [x], w.marks⟩, d1.holds, d1.waits⟩ := by
  have q := g.sc
  have hTS : (d1.tabs.set j t').map (·.S) = d1.tabs.map (·.S) := by
    apply List.ext_getElem?
    intro k
    rw [List.getElem?_map, List.getElem?_map, List.getElem?_set]
    split
    · rename_i e
      subst e
      rw [g.tj]
      have := (List.getElem?_eq_some_iff.1 g.tj).1
      simp [this, hS]
    · rfl
  obtain ⟨w1, w2, w3⟩ := works_set (w' := ⟨w.s, w.log ++ [x], w.marks⟩) g.wi rfl
  have hwm := List.mem_of_getElem? g.wi
  refine ⟨⟨q.tw.set g.tj hS hr, w3 q.srt, fun y hy => ?_, fun y hy => ?_, fun y hy => ?_, q.hu, fun z hz => ?_, q.hc, fun y hy c hc => ?_⟩, fun y hy => ?_, g.ok.holds, g.ok.waits⟩
  · rcases w1 y hy with h | rfl
    · exact q.rng y h
    · exact q.rng w hwm
  · rcases w1 y hy with h | rfl
    · obtain ⟨a, b⟩ := q.log y h
      exact ⟨fun z hz => (a z hz).map hTS, b⟩
    · obtain ⟨a, b⟩ := q.log w hwm
      refine ⟨fun z hz => ?_, by simp; omega⟩
      rcases List.mem_append.1 hz with hz | hz
      · exact (a z hz).map hTS
      · simp at hz
        subst hz
        exact ChOk.map ⟨e2, e3, t, List.mem_of_getElem? g.tj, by rw [e1]; exact g.tn⟩ hTS
  · rcases w1 y hy with h | rfl
    · exact q.mks y h
    · obtain ⟨a, b⟩ := q.mks w hwm
      refine ⟨a, fun m hm => ?_⟩
      obtain ⟨k, h1, h2⟩ := b m hm
      exact ⟨k, h1, by simp; omega⟩
  · obtain ⟨y, hy, he⟩ := q.hw z hz
    obtain ⟨y2, hy2, he2⟩ := w2 y hy
    exact ⟨y2, hy2, he2.trans he⟩
  · rcases w1 y hy with h | rfl
    · exact q.lg y h c hc
    · rcases List.mem_append.1 hc with hc | hc
      · exact q.lg w hwm c hc
      · simp at hc
        subst hc
        obtain ⟨z, hz, a1, a2, a3⟩ := g.hl
        exact ⟨z, hz, a1.trans g.ws.symm, by rw [a2, e1], by rw [hx] at a3; simpa using a3⟩
  · rcases w1 y hy with h | rfl
    · exact hm y h
    · exact hm w hwm
theorem tput_ok {S : Sch} (h1 : S.cols = shColsE) (h2 : S.key = 0) {R : List Row} {r : Row} (h : SO R) (hr : RowOk r ∨ r.length ≠ 2) {T : Tbl × Int} (hT : tblPut ⟨S, R⟩ r = T) : T.1.S = S ∧ SO T.1.rows := by
  subst hT
  exact ⟨tblPut_S _ _, tput_so h1 h2 h hr⟩
theorem sj_put {n : Nat} {d : DB} (q : SJ n d) (s : Int) (nm : ByteArray) {r : Row} (hs : -2 ^ 63 ≤ s ∧ s < 2 ^ 63) (hr : RowOk r ∨ r.length ≠ 2) : SJ (n + 1) (putF d s nm r).1 := by
  have hh := sj_hold q ⟨s, nm, true⟩ hs
  obtain ⟨⟨d1, e⟩, hH⟩ : ∃ X, holdF d ⟨s, nm, true⟩ = X := ⟨_, rfl⟩
  rw [hH] at hh
  by_cases he : e = 0
  · subst he
    obtain ⟨i, w, j, ⟨S, R⟩, g⟩ := hold_granted q.sc q.okd hs hH
    obtain ⟨p1, p2⟩ := put_steps hH g hr (D := putF d s nm r) rfl
    obtain ⟨c1, c2, c3, -⟩ := g.sc.tw.ok _ (List.mem_of_getElem? g.tj)
    by_cases h60 : (w.log.length : Int) ≥ 60
    · rw [p1 h60]; exact hh
    · obtain ⟨T, hT⟩ : ∃ T, tblPut ⟨S, R⟩ r = T := ⟨_, rfl⟩
      obtain ⟨p3, p4⟩ := p2 h60 T hT
      obtain ⟨t1, t2⟩ := tput_ok c1 c2 c3 hr hT
      by_cases hte : T.2 = 0
      · obtain ⟨hro, hD⟩ := p4 hte
        rw [hD]
        exact change_SC g hh.mo rfl t1 t2 rfl hro (.inl rfl) (by omega)
      · rw [p3 hte]; exact hh
  · have : putF d s nm r = (d1, e) := change_refused hH he _
    rw [this]; exact hh
theorem sj_take {n : Nat} {d : DB} (q : SJ n d) (s : Int) (nm : ByteArray) (a : Int) (hs : -2 ^ 63 ≤ s ∧ s < 2 ^ 63) : SJ (n + 1) (takeF d s nm ⟨2, a, noS⟩).1 := by
  have hh := sj_hold q ⟨s, nm, true⟩ hs
  obtain ⟨⟨d1, e⟩, hH⟩ : ∃ X, holdF d ⟨s, nm, true⟩ = X := ⟨_, rfl⟩
  rw [hH] at hh
  by_cases he : e = 0
  · subst he
    obtain ⟨i, w, j, ⟨S, R⟩, g⟩ := hold_granted q.sc q.okd hs hH
    obtain ⟨p1, p2⟩ := take_steps hH g (a := a) (D := takeF d s nm ⟨2, a, noS⟩) rfl
    obtain ⟨c1, c2, c3, -⟩ := g.sc.tw.ok _ (List.mem_of_getElem? g.tj)
    cases ho : S.only with
    | true => rw [p1 ho]; exact hh
    | false =>
      obtain ⟨p3, p4⟩ := p2 ho
      by_cases h60 : (w.log.length : Int) ≥ 60
      · rw [p3 h60]; exact hh
      · obtain ⟨T, hT⟩ : ∃ T, tblTake ⟨S, R⟩ ⟨2, a, noS⟩ = T := ⟨_, rfl⟩
        obtain ⟨p5, p6⟩ := p4 h60 T hT
        have t1 : T.1.S = S := by rw [← hT]; exact tblTake_S _ _
        have t2 : SO T.1.rows := by rw [← hT]; exact ttake_so c2 c3 a
        by_cases hte : T.2.2 = 0
        · obtain ⟨hro, hD⟩ := p6 hte
          rw [hD]
          exact change_SC g hh.mo rfl t1 t2 rfl hro (.inr rfl) (by omega)
        · rw [p5 hte]; exact hh
  · have : takeF d s nm ⟨2, a, noS⟩ = (d1, e) := change_refused hH he _
    rw [this]; exact hh
theorem sj_rows {n : Nat} {d : DB} (q : SJ n d) (s : Int) (nm : ByteArray) (hs : -2 ^ 63 ≤ s ∧ s < 2 ^ 63) : SJ (n + 1) (rowsD d s nm).1 := by
  have hh := sj_hold q ⟨s, nm, false⟩ hs
  unfold rowsD
  split <;> exact hh
theorem work_get {d : DB} (q : SC d) {s : Int} (hs : -2 ^ 63 ≤ s ∧ s < 2 ^ 63) (hb : bsB (wrkC d.works s) = true) : ∃ w, d.works[bsI (wrkC d.works s)]? = some w ∧ w.s = s := work_in q.rng hs hb
theorem sj_save {n : Nat} {d : DB} (q : SJ n d) (s : Int) (nm : ByteArray) (hs : -2 ^ 63 ≤ s ∧ s < 2 ^ 63) : SJ n (saveD d s nm).1 := by
  unfold saveD
  split
  · rename_i hb
    obtain ⟨w, hw, he⟩ := work_get q.sc hs hb
    split
    · exact q
    · rw [hw]
      simp only
      split
      · exact q
      · rename_i hm
        have hm : w.marks.length < 10 := by simp at hm; omega
        obtain ⟨w1, w2, w3⟩ := works_set (w' := ⟨w.s, w.log, w.marks ++ [⟨nm, (w.log.length : Int)⟩]⟩) hw rfl
        have hwm := List.mem_of_getElem? hw
        have qc := q.sc
        obtain ⟨m1, m2⟩ := qc.mks w hwm
        refine ⟨⟨qc.tw, w3 qc.srt, fun y hy => ?_, fun y hy => ?_, fun y hy => ?_, qc.hu, fun z hz => ?_, qc.hc, fun y hy c hc => ?_⟩, fun y hy => ?_, q.hn, q.wn⟩
        · rcases w1 y hy with h | rfl
          · exact qc.rng y h
          · exact qc.rng w hwm
        · rcases w1 y hy with h | rfl
          · exact qc.log y h
          · exact qc.log w hwm
        · rcases w1 y hy with h | rfl
          · exact qc.mks y h
          · refine ⟨by simp; omega, fun m hm => ?_⟩
            rcases List.mem_append.1 hm with hm | hm
            · exact m2 m hm
            · simp at hm
              subst hm
              exact ⟨_, rfl, Nat.le_refl _⟩
        · obtain ⟨y, hy, he⟩ := qc.hw z hz
          obtain ⟨y2, hy2, he2⟩ := w2 y hy
          exact ⟨y2, hy2, he2.trans he⟩
        · rcases w1 y hy with h | rfl
          · exact qc.lg y h c hc
          · exact qc.lg w hwm c hc
        · rcases w1 y hy with h | rfl
          · exact q.mo y h
          · show (w.marks ++ [_]).Pairwise _
            rw [List.pairwise_append]
            refine ⟨q.mo w hwm, List.pairwise_singleton _ _, fun a ha b hb => ?_⟩
            simp at hb
            subst hb
            obtain ⟨k, h1, h2⟩ := m2 a ha
            show a.at_ ≤ (w.log.length : Int)
            omega
  · exact q
theorem mkF_lt {l : List Mrk} {nm : ByteArray} : ∀ {i k : Nat}, mkF l nm i = some k → k < i ∧ k < l.length
  | 0, k, h => by cases h
  | i + 1, k, h => by
    unfold mkF at h
    split at h
    · rename_i m hm
      split at h
      · cases h
        exact ⟨by omega, (List.getElem?_eq_some_iff.1 hm).1⟩
      · have := mkF_lt h
        exact ⟨by omega, this.2⟩
    · have := mkF_lt h
      exact ⟨by omega, this.2⟩
theorem sj_back {n : Nat} {d : DB} (q : SJ n d) (s : Int) (nm : ByteArray) (hs : -2 ^ 63 ≤ s ∧ s < 2 ^ 63) : SJ n (backM d s nm).1 := by
  unfold backM
  split
  · rename_i hb
    obtain ⟨w, hw, he⟩ := work_get q.sc hs hb
    rw [hw]
    simp only
    split
    · rename_i k hk
      obtain ⟨k1, k2⟩ := mkF_lt hk
      obtain ⟨mk, hmk⟩ := get_ex (xs := w.marks) (i := k) k2
      have hwm := List.mem_of_getElem? hw
      have qc := q.sc
      obtain ⟨m1, m2⟩ := qc.mks w hwm
      obtain ⟨a, ha1, ha2⟩ := m2 mk (List.mem_of_getElem? hmk)
      have hun : undoN (((w.marks[k]?).map (·.at_)).getD 0) w.log.length = a := by
        rw [hmk]
        unfold undoN
        simp [ha1]
        omega
      rw [hun]
      obtain ⟨w1, w2, w3⟩ := works_set (w' := ⟨w.s, w.log.take a, w.marks.take (k + 1)⟩) hw rfl
      have hTW := undoL_TW qc.tw (l := w.log.drop a) (fun x hx => (qc.log w hwm).1 x (List.mem_of_mem_drop hx))
      have hTS := undoL_S d.tabs (w.log.drop a)
      refine ⟨⟨hTW, w3 qc.srt, fun y hy => ?_, fun y hy => ?_, fun y hy => ?_, qc.hu, fun z hz => ?_, qc.hc, fun y hy c hc => ?_⟩, fun y hy => ?_, q.hn, q.wn⟩
      · rcases w1 y hy with h | rfl
        · exact qc.rng y h
        · exact qc.rng w hwm
      · rcases w1 y hy with h | rfl
        · obtain ⟨a1, a2⟩ := qc.log y h
          exact ⟨fun z hz => (a1 z hz).map hTS, a2⟩
        · obtain ⟨a1, a2⟩ := qc.log w hwm
          exact ⟨fun z hz => (a1 z (List.mem_of_mem_take hz)).map hTS, by simp; omega⟩
      · rcases w1 y hy with h | rfl
        · exact qc.mks y h
        · refine ⟨by simp; omega, fun m hm => ?_⟩
          have hm : m ∈ w.marks.take (k + 1) := hm
          obtain ⟨b, hb1, hb2⟩ := m2 m (List.mem_of_mem_take hm)
          refine ⟨b, hb1, ?_⟩
          have hle : m.at_ ≤ mk.at_ := by
            obtain ⟨j, hj⟩ := List.getElem?_of_mem hm
            have hjl := (List.getElem?_eq_some_iff.1 hj).1
            rw [List.length_take] at hjl
            rw [List.getElem?_take, if_pos (by omega)] at hj
            rcases Nat.eq_or_lt_of_le (show j ≤ k by omega) with e | hlt
            · subst e
              rw [hmk] at hj; cases hj
              exact Int.le_refl _
            · have := List.pairwise_iff_getElem.1 (q.mo w hwm) j k (List.getElem?_eq_some_iff.1 hj).1 (List.getElem?_eq_some_iff.1 hmk).1 hlt
              rw [(List.getElem?_eq_some_iff.1 hj).2, (List.getElem?_eq_some_iff.1 hmk).2] at this
              exact this
          show b ≤ (w.log.take a).length
          rw [List.length_take]
          omega
      · obtain ⟨y, hy, he⟩ := qc.hw z hz
        obtain ⟨y2, hy2, he2⟩ := w2 y hy
        exact ⟨y2, hy2, he2.trans he⟩
      · rcases w1 y hy with h | rfl
        · exact qc.lg y h c hc
        · exact qc.lg w hwm c (List.mem_of_mem_take hc)
      · rcases w1 y hy with h | rfl
        · exact q.mo y h
        · exact (q.mo w hwm).sublist (List.take_sublist _ _)
    · exact q
  · exact q
end Go.S

