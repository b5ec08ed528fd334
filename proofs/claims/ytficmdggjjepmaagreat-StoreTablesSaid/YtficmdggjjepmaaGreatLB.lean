import Derived.Test.YtficmdggjjepmaaGreatLA
import Derived.Test.YtficmdggjjepmaaGreatGB
import Derived.Test.YtficmdggjjepmaaGreatRd
set_option linter.all false
set_option maxRecDepth 100000
set_option maxHeartbeats 8000000
namespace Go.S
open Go.Sx Go.Proofs
/-- A session holds a table once. -/
def HU (H : List Hld) : Prop := ∀ (i j : Nat) (x y : Hld), H[i]? = some x → H[j]? = some y → x.s = y.s → x.table = y.table → i = j
end Go.S

set_option maxRecDepth 100000
set_option maxHeartbeats 8000000
namespace Go.S
open Go.Sx Go.Proofs
end Go.S

set_option maxRecDepth 100000
set_option maxHeartbeats 8000000
namespace Go.S
open Go.Sx Go.Proofs
end Go.S

set_option maxRecDepth 100000
set_option maxHeartbeats 8000000
namespace Go.S
open Go.Sx Go.Proofs
end Go.S

set_option maxRecDepth 100000
set_option maxHeartbeats 8000000
namespace Go.S
open Go.Sx Go.Proofs
end Go.S

set_option maxRecDepth 100000
set_option maxHeartbeats 8000000
namespace Go.S
open Go.Sx Go.Proofs
end Go.S

set_option maxRecDepth 100000
set_option maxHeartbeats 8000000
namespace Go.S
open Go.Sx Go.Proofs
/-- Marks as sessions make them. -/
def MkOk (d : DB) : Prop := ∀ w ∈ d.works, w.marks.length ≤ 10 ∧ ∀ m ∈ w.marks, ∃ n : Nat, m.at_ = (n : Int) ∧ n ≤ w.log.length
end Go.S

set_option maxRecDepth 100000
set_option maxHeartbeats 8000000
namespace Go.S
open Go.Sx Go.Proofs
/-- Whom one waits for, wait by wait. -/
def sucW (H : List Hld) (a : Int) (w : Hld) : List Int := if w.s = a then (H.filter (agst w)).map (·.s) else []
end Go.S

