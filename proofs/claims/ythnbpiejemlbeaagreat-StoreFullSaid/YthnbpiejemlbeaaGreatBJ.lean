import Derived.Test.YthnbpiejemlbeaaGreatBI
import Derived.Stop.BytesEq
set_option linter.all false
set_option maxRecDepth 100000
set_option maxHeartbeats 4000000
namespace Go.S
open Go.Sx Go.Proofs
structure Fd where
 eJZ:Int
 block:Int
 tx:Int
 seq:Int
structure bKO where
 id:Int
 Vz:List cC
 rows:List Bs
 root:Bs
 Ly:Bool
 block:Bs
set_option maxHeartbeats 1000000
inductive Qe where
 |made (s:rV)
 |gone (nm:ByteArray)
 |tx (t:bKO)
 |kE (n:Int) (sum:Bs)
set_option maxHeartbeats 2000000
theorem IT:Tryz.prog.eqGuardType Tryz.prog.depth 100=false:=by kernel_rfl
end Go.S
