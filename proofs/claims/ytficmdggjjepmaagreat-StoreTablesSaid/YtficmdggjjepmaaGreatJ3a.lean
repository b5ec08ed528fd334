import Derived.Test.YtficmdggjjepmaaGreatJX
import Derived.Test.YtficmdggjjepmaaGreatHA
import Derived.Test.YtficmdggjjepmaaGreatEC
set_option linter.all false
set_option maxRecDepth 100000
set_option maxHeartbeats 8000000
namespace Go.S
open Go.Sx Go.Proofs

/-- Where the marks stand at a step. -/
def Mst (h : Heap) (C i : Nat) (R : List Row) (L : List Chg) (M : List Mrk) (y : Value) : Prop :=
  (i ≤ C ∧ M = []) ∨ (C < i ∧ ∃ (R0 : List Row) (n : Nat) (l : List Mrk), M = ⟨nHere, (n : Int)⟩ :: l ∧ (∀ x ∈ l, x.name = nLater) ∧ l.length ≤ min (i - 1 - C) 2 ∧ Bk R L R0 n ∧ SO R0 ∧ Sl 88 shRow h y R0)
end Go.S

