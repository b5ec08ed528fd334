import Derived.Test.YtekoaiendgjkdaaGreatP1
import Derived.Test.YtekoaiendgjkdaaGreatHA
import Derived.Test.YtekoaiendgjkdaaGreatI1
set_option linter.unusedVariables false
set_option linter.unusedSimpArgs false
set_option linter.unusedSectionVars false
set_option maxRecDepth 100000
set_option maxHeartbeats 4000000
namespace Go.Sx
end Go.Sx
namespace Go.S
open Go.Sx Go.Proofs
structure bc where
 k:Int
 s:Int
 t:Int
 n:Int
 x:Bool
def hW:Sh bc where
 n:=5
 R _ cs v:=cs=[.int .i64 v.k,.int .i64 v.s,.int .i64 v.t,.int .i64 v.n,.bool v.x]
 len:=by rintro h cs x rfl;rfl
 one:=by rintro h cs x rfl;rfl
 a5:=[]
 mono:=fun _ q=>q
structure kk(a:bc):Prop where
 k:-2^63<=a.k/\a.k<2^63
 s:-2^63<=a.s/\a.s<2^63
 t:-2^63<=a.t/\a.t<2^63
 n:-2^63<=a.n/\a.n<2^63
def ot(R:List Row):DB:=⟨[⟨aT 0,R⟩,cL 1,cL 2],[],[],[]⟩
end Go.S
