import Derived.Test.YtnfijhlegoagjaaGreatP1
import Derived.Test.YtnfijhlegoagjaaGreatH3a
import Derived.Test.YtnfijhlegoagjaaGreatI1
set_option linter.unusedVariables false
set_option linter.unusedSimpArgs false
set_option linter.unusedSectionVars false
set_option maxRecDepth 100000
set_option maxHeartbeats 4000000
set_option linter.unusedVariables false
set_option linter.unusedSimpArgs false
namespace Go.Sx
theorem rdc.part {h : Heap} {a : Addr} {n o m : Nat} {cs : List Value} (q : rdc h a n cs) {A : Ar} [hA : ArOk A] (ho : o + m ≤ n) : rdc h (A .off a o) m ((cs.drop o).take m) := by
  obtain ⟨h1, h2, c, e, fr, h3, h4⟩ := q
  obtain ⟨blk, off, sp⟩ := a
  simp only at h1
  subst h1
  rw [hA.off]
  simp only [add_none]
  refine ⟨rfl, by simp; omega, c, e, fr, h3, fun i hi => ?_⟩
  rw [List.getElem?_take, if_pos hi, List.getElem?_drop, ← h4 (o + i) (by omega)]
  simp only
  rw [Nat.add_assoc]
/-- A part of an element is read, and read again. -/
theorem SlB.loadFP {α : Type} {A : Ar} [ArOk A] {s : Sh α} {h : Heap} {b : Option Addr} {len cap : Nat} {xs : List α} (q : SlB s h (.slice b len cap) xs) {i : Nat} {x : α} (hx : xs[i]? = some x) {n : Int} (hn : n = (i : Int)) {o m : Nat} (ho : o + m ≤ s.n)
    {k : List Value → Prop} (hk : ∀ cs, s.R h cs x → (∀ h' k', Le h h' → k' ((cs.drop o).take m) → LdX h' (A .off (A .elt b n s.n) o) m k') → k ((cs.drop o).take m)) : LdX h (A .off (A .elt b n s.n) o) m k := by
  have key : ∃ cs, rdc h (A.elt b n s.n) s.n cs ∧ s.R h cs x := (q.load (A := A) hx hn (k := fun cs => s.R h cs x) (fun cs hcs => hcs)).out
  obtain ⟨cs, h1, h2⟩ := key
  have h3 := h1.part (A := A) ho
  exact ⟨_, h3, hk cs h2 (fun h' k' l hk' => ⟨_, h3.le l, hk'⟩)⟩
end Go.Sx
namespace Go.S
open Go.Sx Go.Proofs
structure Act1 where
  k : Int
  s : Int
  t : Int
  n : Int
  x : Bool
def shAct : Sh Act1 where
  n := 5
  R _ cs v := cs = [.int .i64 v.k, .int .i64 v.s, .int .i64 v.t, .int .i64 v.n, .bool v.x]
  len := by rintro h cs x rfl; rfl
  one := by rintro h cs x rfl; rfl
  tys := []
  mono := fun _ q => q
structure ActOk (a : Act1) : Prop where
  k : -2 ^ 63 ≤ a.k ∧ a.k < 2 ^ 63
  s : -2 ^ 63 ≤ a.s ∧ a.s < 2 ^ 63
  t : -2 ^ 63 ≤ a.t ∧ a.t < 2 ^ 63
  n : -2 ^ 63 ≤ a.n ∧ a.n < 2 ^ 63

def cmD2 (R : List Row) : DB := ⟨[⟨shapeS 0, R⟩, tblS 1, tblS 2], [], [], []⟩
theorem mn_commit2 (R : List Row) (L : List Chg) {H : List Hld} (hH : H = [] ∨ H = [hX 2]) : commitD (mnD 2 R L [] H) 2 = (cmD2 R, L, 0) := by
  rcases hH with rfl | rfl
  · kernel_rfl
  · kernel_rfl
theorem key0 : (shapeS 0).key = 0 := by kernel_rfl

theorem putR_SR {R : List Row} {L : List Chg} {r : Row} (h : SR R) (hr : RowOk r) (hl : R.length ≤ 200) : ∃ R' L' e, putR R L r = (R', L', e) ∧ SR R' ∧ R'.length ≤ 200 ∧ ((e = 0 ∧ L' = L ++ [⟨nTa, 1, r⟩]) ∨ (e ≠ 0 ∧ L' = L)) := by
  have hf := hr.fits
  obtain ⟨a, v, rfl, -⟩ := hr
  obtain ⟨p, q⟩ := h.at_ a
  have hp := tblPut_SR key0 h (S := shapeS 0) hf q
  unfold putR
  rw [hp]
  have same : ∀ e : Int, e ≠ 0 → ∃ R' L' e', pick3 e L.length (R, L, (4 : Int)) (R, L ++ [⟨nTa, 1, [⟨2, a, noS⟩, v]⟩], 0) (R, L, e) = (R', L', e') ∧ SR R' ∧ R'.length ≤ 200 ∧ ((e' = 0 ∧ L' = L ++ [⟨nTa, 1, [⟨2, a, noS⟩, v]⟩]) ∨ (e' ≠ 0 ∧ L' = L)) := fun e he => by
    unfold pick3
    split
    · exact ⟨R, L, 4, rfl, h, hl, .inr ⟨by decide, rfl⟩⟩
    · rw [if_neg (by simpa using he)]
      exact ⟨R, L, e, rfl, h, hl, .inr ⟨he, rfl⟩⟩
  by_cases h1 : hasK R a p = true
  · rw [if_pos h1]; exact same 7 (by decide)
  · rw [if_neg h1]
    by_cases h2 : decide ((R.length : Int) ≥ 200) = true
    · rw [if_pos h2]; exact same 4 (by decide)
    · rw [if_neg h2]
      have h2 : R.length < 200 := by simp at h2; omega
      have h3 := h.ins (v := v) q (by simpa using h1)
      unfold pick3
      split
      · exact ⟨R, L, 4, rfl, h, hl, .inr ⟨by decide, rfl⟩⟩
      · refine ⟨_, _, 0, rfl, h3, ?_, .inl ⟨rfl, rfl⟩⟩
        have := q.le
        simp; omega
theorem takeR_SR {R : List Row} {L : List Chg} {a : Int} (h : SR R) (hl : R.length ≤ 200) : ∃ R' L' e, takeR R L ⟨2, a, noS⟩ = (R', L', e) ∧ SR R' ∧ R'.length ≤ 200 ∧ ((e = 0 ∧ L' = L ++ (R.filter fun row => decide (kN row = a)).map (fun row => ⟨nTa, 2, row⟩) ∧ (R.filter fun row => decide (kN row = a)).length = 1) ∨ (e ≠ 0 ∧ L' = L)) := by
  obtain ⟨p, q⟩ := h.at_ a
  have hp := tblTake_SR key0 h (S := shapeS 0) q
  unfold takeR
  rw [hp]
  by_cases h1 : hasK R a p = true
  · rw [if_pos h1]
    obtain ⟨row, hr, hk, hfil⟩ := q.filter h h1
    unfold pick3
    split
    · exact ⟨R, L, 4, rfl, h, hl, .inr ⟨by decide, rfl⟩⟩
    · refine ⟨_, _, 0, rfl, h.sub (take_drop_sub R p), ?_, .inl ⟨rfl, ?_, by rw [hfil]; rfl⟩⟩
      · have := (take_drop_sub R p).length_le
        exact Nat.le_trans this hl
      · rw [hfil, hr]; rfl
  · rw [if_neg h1]
    unfold pick3
    split
    · exact ⟨R, L, 4, rfl, h, hl, .inr ⟨by decide, rfl⟩⟩
    · exact ⟨R, L, 2, rfl, h, hl, .inr ⟨by decide, rfl⟩⟩
theorem filter_take {R : List Row} {a : Int} {i : Nat} {row : Row} (h : R[i]? = some row) : (R.take (i + 1)).filter (fun r => decide (kN r = a)) = (R.take i).filter (fun r => decide (kN r = a)) ++ if kN row = a then [row] else [] := by
  rw [List.take_add_one, h, List.filter_append]
  by_cases hk : kN row = a <;> simp [hk]
end Go.S

