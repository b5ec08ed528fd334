import Derived.Test.YtficmdggjjepmaaGreatJX
import Derived.Test.YtficmdggjjepmaaGreatHA
import Derived.Test.YtficmdggjjepmaaGreatJ3a
set_option linter.all false
set_option maxRecDepth 100000
set_option maxHeartbeats 8000000
namespace Go.S
open Go.Sx Go.Proofs

end Go.S

set_option maxRecDepth 100000
set_option maxHeartbeats 8000000
namespace Go.S
open Go.Sx Go.Proofs
end Go.S

set_option maxRecDepth 100000
set_option maxHeartbeats 8000000
namespace Go.S
open Go.Sx Go.Proofs
end Go.S

set_option maxRecDepth 100000
set_option maxHeartbeats 4000000
namespace Go.S
open Go.Sx Go.Proofs

/-! One session alone with three tables. -/
def TG (F : Nat → List Row) : List Tbl := [⟨shapeS 0, F 0⟩, ⟨shapeS 1, F 1⟩, ⟨shapeS 2, F 2⟩]
def upd (F : Nat → List Row) (t : Nat) (R : List Row) : Nat → List Row := fun j => if j = t then R else F j
def GD (s : Int) (F : Nat → List Row) (L : List Chg) (M : List Mrk) (H : List Hld) : DB := ⟨TG F, [⟨s, L, M⟩], H, []⟩
def AllS (s : Int) (H : List Hld) : Prop := ∀ x ∈ H, x.s = s
def SOF (F : Nat → List Row) : Prop := ∀ j, j < 3 → SO (F j)
/-- One step, and back. -/
def Stp (F : Nat → List Row) (L : List Chg) (F' : Nat → List Row) (L' : List Chg) : Prop := (L' = L ∧ F' = F) ∨ ∃ x, L' = L ++ [x] ∧ undo1 (TG F') x = TG F
def G0 (F : Nat → List Row) : DB := ⟨TG F, [], [], []⟩
end Go.S

