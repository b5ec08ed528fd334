import Derived.Test.YtnfijhlegoagjaaGreatJ2
import Derived.Test.YtnfijhlegoagjaaGreatH3
import Derived.Test.YtnfijhlegoagjaaGreatEC
set_option linter.unusedVariables false
set_option linter.unusedSimpArgs false
set_option linter.unusedSectionVars false
set_option maxRecDepth 100000
set_option maxHeartbeats 8000000
set_option linter.unusedVariables false
set_option linter.unusedSimpArgs false
namespace Go.S
open Go.Sx Go.Proofs

theorem within15W (a : Int) {m : Int} {n : Nat} (hm : IsN m n) (hn : 0 < n) (hn2 : n ≤ 2 ^ 60) (h : Heap) {k : Value → Heap → Prop} (hk : ∀ z i, IsN z i → i = (a % (n : Int)).toNat → i < n → k (.int .i64 z) h) : Ct 15 [.int .i64 a, .int .i64 m] h k := by
  obtain ⟨A, hA⟩ := Ar.ex
  have hm := hm.eq
  have hm0 : m ≠ 0 := by omega
  have hrem : A .ari .rem .i64 a m = a.tmod m := by rw [hA.ari]; rfl
  have hb1 : a.tmod m < m := by have := Int.tmod_lt_of_pos a (show 0 < m by omega); omega
  have hb2 : -m < a.tmod m := by
    have := Int.lt_tmod_of_pos a (show 0 < m by omega); omega
  have hemod : a % m = if a.tmod m < 0 then a.tmod m + m else a.tmod m := by
    rw [Int.tmod_eq_emod]
    have h1 := Int.emod_nonneg a hm0
    have h2 := Int.emod_lt_of_pos a (show 0 < m by omega)
    by_cases hc : 0 ≤ a ∨ m ∣ a
    · rw [if_pos hc]
      rw [if_neg (by omega)]; omega
    · rw [if_neg hc]
      have : (m.natAbs : Int) = m := by omega
      rw [this, if_pos (by omega)]; omega
  generalize ht : a.tmod m = t at *
  generalize eu : A .icm .lss t 0 = u
  have fu := eu
  rw [icm_lss A] at eu
  have key : ∀ z : Int, z = a % m → k (.int .i64 z) h := fun z hz => by
    have h1 := Int.emod_nonneg a hm0
    have h2 := Int.emod_lt_of_pos a (show 0 < m by omega)
    refine hk z (a % (n : Int)).toNat ⟨?_⟩ rfl ?_
    · rw [← hm]; omega
    · rw [← hm]; omega
  have hadd : t < 0 → A .ari .add .i64 t m = t + m := fun h => by
    rw [hA.ari]; simp only [ari]
    rw [IntWalk.i64_in _ (by omega)]
  refine fn_of_sx A (tabOk T15.plan T15.pub) Tryz.func15 rfl (by kernel_rfl) ?_
  cbv
  refine ⟨hm0, ?_⟩
  cbv
  rw [hrem]
  rw [fu]
  cases u with
  | true =>
    have hneg := of_decide_eq_true eu
    have hk2 := key (t + m) (by rw [hemod, if_pos hneg])
    cbv
    rw [hadd hneg]
    exact hk2
  | false =>
    have hneg := of_decide_eq_false eu
    have hk2 := key t (by rw [hemod, if_neg hneg])
    cbv
    exact hk2

/-- Where the marks stand at a step. -/
def Mst (h : Heap) (C i : Nat) (R : List Row) (L : List Chg) (M : List Mrk) (y : Value) : Prop :=
  (i ≤ C ∧ M = []) ∨ (C < i ∧ ∃ (R0 : List Row) (n : Nat) (l : List Mrk), M = ⟨nHere, (n : Int)⟩ :: l ∧ (∀ x ∈ l, x.name = nLater) ∧ l.length ≤ min (i - 1 - C) 2 ∧ Bk R L R0 n ∧ SO R0 ∧ Sl 63 shRow h y R0)
theorem Mst.mono {h h' : Heap} {C i : Nat} {R : List Row} {L : List Chg} {M : List Mrk} {y : Value} (q : Mst h C i R L M y) (l : Le h h') : Mst h' C i R L M y := by
  rcases q with q | ⟨h1, R0, n, l0, h2, h3, h4, h5, h6, h7⟩
  · exact .inl q
  · exact .inr ⟨h1, R0, n, l0, h2, h3, h4, h5, h6, h7.mono (l.t _)⟩
theorem Mst.step {h : Heap} {C i : Nat} {R R' : List Row} {L L' : List Chg} {M : List Mrk} {y : Value} (q : Mst h C i R L M y) (s : (L' = L ∧ R' = R) ∨ ∃ x, L' = L ++ [x] ∧ undo1 (tT R') x = tT R) : Mst h C i R' L' M y := by
  rcases q with q | ⟨h1, R0, n, l0, h2, h3, h4, h5, h6, h7⟩
  · exact .inl q
  · exact .inr ⟨h1, R0, n, l0, h2, h3, h4, h5.step s, h6, h7⟩
theorem Mst.lo {h : Heap} {C i : Nat} {R : List Row} {L : List Chg} {M : List Mrk} {y : Value} (q : Mst h C i R L M y) (hi : i < C) : Mst h C (i + 1) R L M y := by
  rcases q with q | q
  · exact .inl ⟨by omega, q.2⟩
  · have := q.1; omega
theorem Mst.hi {h : Heap} {C i : Nat} {R : List Row} {L : List Chg} {M : List Mrk} {y : Value} (q : Mst h C i R L M y) (hi : C + 3 ≤ i) : Mst h C (i + 1) R L M y := by
  rcases q with q | ⟨h1, R0, n, l0, h2, h3, h4, h5, h6, h7⟩
  · omega
  · exact .inr ⟨by omega, R0, n, l0, h2, h3, by omega, h5, h6, h7⟩
theorem Mst.at_ {h h' : Heap} {C : Nat} {R : List Row} {L : List Chg} {M : List Mrk} {y y' : Value} (q : Mst h C C R L M y) (hR : SO R) (s : Sl 63 shRow h' y' R) : M = [] ∧ Mst h' C (C + 1) R L [⟨nHere, (L.length : Int)⟩] y' := by
  rcases q with q | q
  · exact ⟨q.2, .inr ⟨by omega, R, L.length, [], rfl, by simp, by simp, Bk.here R L, hR, s⟩⟩
  · have := q.1; omega
theorem Mst.late {h : Heap} {C i : Nat} {R : List Row} {L : List Chg} {M : List Mrk} {y : Value} (q : Mst h C i R L M y) (hi : C < i) (hi2 : i < C + 3) : Mst h C (i + 1) R L (M ++ [⟨nLater, (L.length : Int)⟩]) y := by
  rcases q with q | ⟨h1, R0, n, l0, h2, h3, h4, h5, h6, h7⟩
  · omega
  · refine .inr ⟨by omega, R0, n, l0 ++ [⟨nLater, (L.length : Int)⟩], by rw [h2]; rfl, fun x hx => ?_, by simp; omega, h5, h6, h7⟩
    rcases List.mem_append.1 hx with hx | hx
    · exact h3 x hx
    · simp at hx; rw [hx]
theorem Mst.few {h : Heap} {C i : Nat} {R : List Row} {L : List Chg} {M : List Mrk} {y : Value} (q : Mst h C i R L M y) : M.length < 10 := by
  rcases q with q | ⟨h1, R0, n, l0, h2, h3, h4, h5, h6, h7⟩
  · rw [q.2]; simp
  · rw [h2]; simp; omega
theorem Mst.none {h : Heap} {C i : Nat} {R : List Row} {L : List Chg} {M : List Mrk} {y : Value} (q : Mst h C i R L M y) (hi : i ≤ C) : M = [] := by
  rcases q with q | q
  · exact q.2
  · have := q.1; omega
theorem Mst.some {h : Heap} {C i : Nat} {R : List Row} {L : List Chg} {M : List Mrk} {y : Value} (q : Mst h C i R L M y) (hi : C < i) : ∃ (R0 : List Row) (n : Nat) (l : List Mrk), M = ⟨nHere, (n : Int)⟩ :: l ∧ (∀ x ∈ l, x.name = nLater) ∧ Bk R L R0 n ∧ SO R0 ∧ Sl 63 shRow h y R0 := by
  rcases q with q | ⟨h1, R0, n, l0, h2, h3, h4, h5, h6, h7⟩
  · omega
  · exact ⟨R0, n, l0, h2, h3, h5, h6, h7⟩
theorem Bk.cut {R : List Row} {L : List Chg} {R0 : List Row} {n : Nat} (q : Bk R L R0 n) : Bk R0 (L.take n) R0 n := by
  refine ⟨by have := q.le; simp; omega, ?_⟩
  rw [List.drop_of_length_le (by simp; omega)]
  rfl
theorem nat_ge {A : Ar} [hA : ArOk A] {z : Int} {i : Nat} (hz : IsN z i) (n : Nat) : A .icm .geq z (A .nat n) = decide (n ≤ i) := by
  have e2 := hz.eq
  rw [hA.icm, hA.nat]; simp only [icm]; rw [decide_eq_decide]; show (n : Int) ≤ z ↔ _; omega
end Go.S

