import Derived.Test.YtnfijhlegoagjaaGreatJ1
import Derived.Test.YtnfijhlegoagjaaGreatGB
import Derived.Test.YtnfijhlegoagjaaGreatI2a
import Derived.Test.YtnfijhlegoagjaaGreatH4
set_option linter.unusedVariables false
set_option linter.unusedSimpArgs false
set_option linter.unusedSectionVars false
set_option maxRecDepth 100000
set_option maxHeartbeats 4000000
set_option linter.unusedVariables false
set_option linter.unusedSimpArgs false
namespace Go.S
open Go.Sx Go.Proofs

/-! Rows, their log, and the way back. -/
def tT (R : List Row) : List Tbl := [⟨shapeS 0, R⟩, tblS 1, tblS 2]
structure SO (R : List Row) : Prop where
  sr : SR R
  ok : ∀ row ∈ R, RowOk row
  le : R.length ≤ 200
theorem SO.nil : SO [] := ⟨SR.nil, by simp, by simp⟩
/-- The way back to a mark. -/
structure Bk (R : List Row) (L : List Chg) (R0 : List Row) (n : Nat) : Prop where
  le : n ≤ L.length
  un : undoL (tT R) (L.drop n) = tT R0
/-! The session's calls. -/
def hR : Hld := ⟨0, nTa, false⟩
def HH (H : List Hld) : Prop := H = [] ∨ H = [hX 0] ∨ H = [hR]
def nHere : ByteArray := ⟨#[104, 101, 114, 101]⟩
def nLater : ByteArray := ⟨#[108, 97, 116, 101, 114]⟩
end Go.S

