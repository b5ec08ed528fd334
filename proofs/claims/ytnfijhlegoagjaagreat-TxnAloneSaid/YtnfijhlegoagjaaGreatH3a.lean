import Derived.Test.YtnfijhlegoagjaaGreatH2a
set_option linter.unusedVariables false
set_option linter.unusedSimpArgs false
set_option linter.unusedSectionVars false
set_option maxRecDepth 100000
set_option maxHeartbeats 4000000
set_option linter.unusedVariables false
set_option linter.unusedSimpArgs false
namespace Go.S
open Go.Sx Go.Proofs

/-! One session, one table in use. -/
def hX (s : Int) : Hld := ⟨s, nTa, true⟩
def mnD (s : Int) (R : List Row) (L : List Chg) (M : List Mrk) (H : List Hld) : DB := ⟨[⟨shapeS 0, R⟩, tblS 1, tblS 2], [⟨s, L, M⟩], H, []⟩
def pick3 {α : Type} (e : Int) (n : Nat) (a b c : α) : α := if (decide (e ≠ 19) && decide ((n : Int) ≥ 60)) = true then a else if decide (e = 0) = true then b else c
/-- What a put does to the rows and the log. -/
def putR (R : List Row) (L : List Chg) (r : Row) : List Row × List Chg × Int :=
  pick3 (tblPut ⟨shapeS 0, R⟩ r).2 L.length (R, L, 4) ((tblPut ⟨shapeS 0, R⟩ r).1.rows, L ++ [⟨nTa, 1, r⟩], 0) (R, L, (tblPut ⟨shapeS 0, R⟩ r).2)
def takeR (R : List Row) (L : List Chg) (k : Val) : List Row × List Chg × Int :=
  pick3 (tblTake ⟨shapeS 0, R⟩ k).2.2 L.length (R, L, 4) ((tblTake ⟨shapeS 0, R⟩ k).1.rows, L ++ [⟨nTa, 2, (tblTake ⟨shapeS 0, R⟩ k).2.1⟩], 0) (R, L, (tblTake ⟨shapeS 0, R⟩ k).2.2)
theorem tblPut_S (t : Tbl) (r : Row) : (tblPut t r).1.S = t.S := by
  unfold tblPut
  repeat' split
  all_goals rfl
theorem tblTake_S (t : Tbl) (k : Val) : (tblTake t k).1.S = t.S := by unfold tblTake; split <;> rfl
theorem tbl_eta {t : Tbl} {S : Sch} (h : t.S = S) : t = ⟨S, t.rows⟩ := by cases t; simp at h; rw [h]

end Go.S
namespace Go.Sx
end Go.Sx

