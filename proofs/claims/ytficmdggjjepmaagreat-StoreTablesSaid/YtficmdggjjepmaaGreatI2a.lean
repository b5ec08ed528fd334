import Derived.Test.YtficmdggjjepmaaGreatP1
import Derived.Test.YtficmdggjjepmaaGreatHA
import Derived.Test.YtficmdggjjepmaaGreatI1
set_option linter.all false
set_option maxRecDepth 100000
set_option maxHeartbeats 4000000
namespace Go.Sx
end Go.Sx
namespace Go.S
open Go.Sx Go.Proofs
structure Act1 where
  k : Int
  s : Int
  t : Int
  n : Int
  x : Bool
def shAct : Sh Act1 where
  n := 5
  R _ cs v := cs = [.int .i64 v.k, .int .i64 v.s, .int .i64 v.t, .int .i64 v.n, .bool v.x]
  len := by rintro h cs x rfl; rfl
  one := by rintro h cs x rfl; rfl
  tys := []
  mono := fun _ q => q
structure ActOk (a : Act1) : Prop where
  k : -2 ^ 63 ≤ a.k ∧ a.k < 2 ^ 63
  s : -2 ^ 63 ≤ a.s ∧ a.s < 2 ^ 63
  t : -2 ^ 63 ≤ a.t ∧ a.t < 2 ^ 63
  n : -2 ^ 63 ≤ a.n ∧ a.n < 2 ^ 63

def cmD2 (R : List Row) : DB := ⟨[⟨shapeS 0, R⟩, tblS 1, tblS 2], [], [], []⟩
end Go.S

