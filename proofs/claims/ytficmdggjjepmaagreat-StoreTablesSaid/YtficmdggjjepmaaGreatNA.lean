import Derived.Test.YtficmdggjjepmaaGreatMB
set_option linter.all false
set_option maxRecDepth 100000
set_option maxHeartbeats 8000000
namespace Go.S
open Go.Sx Go.Proofs
theorem cmpL_trans : ∀ a b c : List UInt8, Lib.compareBytes a b < 0 → Lib.compareBytes b c < 0 → Lib.compareBytes a c < 0
  | [], _, [], h1, h2 => by
    rename_i b
    cases b with
    | nil => simp [Lib.compareBytes] at h1
    | cons y b => simp [Lib.compareBytes] at h2
  | [], _, z :: c, h1, h2 => by simp [Lib.compareBytes]
  | x :: a, [], _, h1, h2 => by simp [Lib.compareBytes] at h1
  | x :: a, y :: b, [], h1, h2 => by simp [Lib.compareBytes] at h2
  | x :: a, y :: b, z :: c, h1, h2 => by
    have ih := cmpL_trans a b c
    unfold Lib.compareBytes at h1 h2 ⊢
    have lt : ∀ p q : UInt8, p < q ↔ p.toNat < q.toNat := fun p q => UInt8.lt_iff_toNat_lt
    by_cases a1 : x < y
    · rw [if_pos a1] at h1
      by_cases b1 : y < z
      · have : x < z := by rw [lt] at a1 b1 ⊢; omega
        rw [if_pos this]; decide
      · rw [if_neg b1] at h2
        by_cases b2 : z < y
        · rw [if_pos b2] at h2; exact absurd h2 (by decide)
        · have : x < z := by rw [lt] at a1 b1 b2 ⊢; omega
          rw [if_pos this]; decide
    · rw [if_neg a1] at h1
      by_cases a2 : y < x
      · rw [if_pos a2] at h1; exact absurd h1 (by decide)
      · rw [if_neg a2] at h1
        have e : x = y := by rw [lt] at a1 a2; exact UInt8.toNat_inj.1 (by omega)
        subst e
        by_cases b1 : x < z
        · rw [if_pos b1]; decide
        · rw [if_neg b1] at h2 ⊢
          by_cases b2 : z < x
          · rw [if_pos b2] at h2; exact absurd h2 (by decide)
          · rw [if_neg b2] at h2 ⊢
            exact ih h1 h2
theorem cmpB_trans {a b c : ByteArray} (h1 : cmpB a b < 0) (h2 : cmpB b c < 0) : cmpB a c < 0 := by
  unfold cmpB at *
  exact cmpL_trans _ _ _ h1 h2
theorem tw_mem {α : Type} {p : α → Bool} {x : α} : ∀ {l : List α}, x ∈ l.takeWhile p → p x = true
  | [], h => by cases h
  | y :: r, h => by
    cases hp : p y with
    | true =>
      rw [List.takeWhile_cons_of_pos hp] at h
      rcases List.mem_cons.1 h with rfl | h
      · exact hp
      · exact tw_mem h
    | false =>
      rw [List.takeWhile_cons_of_neg (by rw [hp]; simp)] at h
      cases h
theorem tw_next {α : Type} {p : α → Bool} {x : α} : ∀ {l : List α}, l[(l.takeWhile p).length]? = some x → p x = false
  | [], h => by simp at h
  | y :: r, h => by
    cases hp : p y with
    | true =>
      rw [List.takeWhile_cons_of_pos hp, List.length_cons] at h
      exact tw_next (l := r) (by simpa using h)
    | false =>
      rw [List.takeWhile_cons_of_neg (by rw [hp]; simp)] at h
      simp at h
      rw [← h]; exact hp
/-- Where a name would stand. -/
theorem tab_pos {T : List Tbl} (h : T.Pairwise (fun a b => cmpB a.S.name b.S.name < 0)) (nm : ByteArray) :
    bsI (tabCmps T nm) = refPos T nm ∧ refPos T nm ≤ T.length ∧ (∀ t ∈ T.take (refPos T nm), cmpB t.S.name nm < 0) ∧ ∀ t ∈ T.drop (refPos T nm), ¬ cmpB t.S.name nm < 0 := by
  have hl : (tabCmps T nm).length = T.length := by simp [tabCmps]
  have get : ∀ (j : Nat) (t : Tbl), T[j]? = some t → (tabCmps T nm).getD j 0 = cmpB t.S.name nm := fun j t ht => by
    rw [List.getD_eq_getElem?_getD]; unfold tabCmps; rw [List.getElem?_map, ht]; rfl
  have hple : refPos T nm ≤ T.length := (List.takeWhile_sublist _).length_le
  have htk : T.take (refPos T nm) = T.takeWhile fun t => decide (cmpB t.S.name nm < 0) := by
    unfold refPos
    exact (List.prefix_iff_eq_take.1 (List.takeWhile_prefix _)).symm
  have hlow : ∀ t ∈ T.take (refPos T nm), cmpB t.S.name nm < 0 := fun t ht => by
    rw [htk] at ht
    have := tw_mem ht
    exact of_decide_eq_true this
  have hhi0 : ∀ t, T[refPos T nm]? = some t → ¬ cmpB t.S.name nm < 0 := fun t ht => by
    have := tw_next (p := fun t : Tbl => decide (cmpB t.S.name nm < 0)) ht
    exact of_decide_eq_false this
  have hhi : ∀ (j : Nat) (t : Tbl), refPos T nm ≤ j → T[j]? = some t → ¬ cmpB t.S.name nm < 0 := fun j t hj ht => by
    rcases Nat.eq_or_lt_of_le hj with e | hlt
    · subst e; exact hhi0 t ht
    · have hjl := (List.getElem?_eq_some_iff.1 ht).1
      obtain ⟨t0, ht0⟩ := get_ex (xs := T) (i := refPos T nm) (by omega)
      intro hneg
      have := List.pairwise_iff_getElem.1 h _ j (List.getElem?_eq_some_iff.1 ht0).1 hjl hlt
      rw [(List.getElem?_eq_some_iff.1 ht0).2, (List.getElem?_eq_some_iff.1 ht).2] at this
      exact hhi0 t0 ht0 (cmpB_trans this hneg)
  refine ⟨?_, hple, hlow, fun t ht => ?_⟩
  · unfold bsI
    refine bsAt_eq _ _ (fun j hj => ?_) 0 _ (fun j h1 h2 => ?_) (Nat.zero_le _) (by omega)
    · obtain ⟨t, ht⟩ := get_ex (xs := T) (i := j) (by omega)
      rw [get j t ht]
      exact hlow t (List.mem_of_getElem? (by rw [List.getElem?_take, if_pos hj]; exact ht))
    · obtain ⟨t, ht⟩ := get_ex (xs := T) (i := j) (by omega)
      rw [get j t ht]
      have := hhi j t h1 ht
      omega
  · obtain ⟨j, hj⟩ := List.getElem?_of_mem ht
    rw [List.getElem?_drop] at hj
    exact hhi _ t (by omega) hj
theorem tab_any {T : List Tbl} (h : T.Pairwise (fun a b => cmpB a.S.name b.S.name < 0)) (nm : ByteArray) : bsB (tabCmps T nm) = T.any (fun t => decide (t.S.name = nm)) := by
  cases ha : T.any (fun t => decide (t.S.name = nm)) with
  | true =>
    obtain ⟨t, ht, he⟩ := List.any_eq_true.1 ha
    have he := of_decide_eq_true he
    obtain ⟨i, hi⟩ := List.getElem?_of_mem ht
    have := (tab_at h hi).2
    rw [he] at this
    exact this
  | false =>
    refine tab_none (fun t ht => ?_)
    have := List.any_eq_false.1 ha t ht
    simpa using this
end Go.S

