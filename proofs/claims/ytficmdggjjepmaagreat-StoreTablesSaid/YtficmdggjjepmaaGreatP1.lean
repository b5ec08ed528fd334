import Derived.Test.YtficmdggjjepmaaGreatHA
set_option linter.all false
set_option maxRecDepth 100000
set_option maxHeartbeats 4000000
namespace Go.S
open Go.Sx Go.Proofs

/-! Rows in the order of their keys. -/
def kN (r : Row) : Int := match r with
  | v :: _ => v.n
  | [] => 0
structure SR (R : List Row) : Prop where
  form : ∀ row ∈ R, ∃ a v, row = [⟨2, a, noS⟩, v]
  srt : R.Pairwise (fun x y => kN x < kN y)
/-- Where a key stands. -/
structure At (R : List Row) (a : Int) (p : Nat) : Prop where
  le : p ≤ R.length
  lo : ∀ i row, i < p → R[i]? = some row → kN row < a
  hi : ∀ i row, p ≤ i → R[i]? = some row → a ≤ kN row
def hasK (R : List Row) (a : Int) (p : Nat) : Bool := match R[p]? with
  | some row => decide (kN row = a)
  | none => false
end Go.S

