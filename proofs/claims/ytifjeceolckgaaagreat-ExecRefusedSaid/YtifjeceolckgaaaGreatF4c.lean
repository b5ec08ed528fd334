import Derived.Test.YtifjeceolckgaaaGreatF4b
set_option linter.all false
set_option maxRecDepth 100000
set_option maxHeartbeats 8000000
namespace Go.S
open Go.Sx Go.Proofs Go.ChangeShapes Go.WideShapes Go.ChangeAt Go.RowKit
theorem fc{H:Type}{enc:TypeId×Value->H}{W:World}{r:Reach}{b0:Nat}{v:Value}{d:DataW H}{p:List MemPlace}(e:Value.okWide Tryz.prog W r b0 24 v)(h:DataW.Trod enc Tryz.prog W 0 (λ_=>true) true 24 v d p):
 ∃a:wK,v=.agg #[.int .i64 a.s,.int .i64 a.n,.int .i64 a.a,.int .i64 a.b]:=by
 obtain⟨cs,rfl,-⟩:=okWide_struct Tryz.underlying24 e;obtain⟨n,c⟩:=h;obtain⟨a,b⟩:=UG c;have b:cs.toList=[.int .i64 a.s,.int .i64 a.n,.int .i64 a.a,.int .i64 a.b]:=b;refine⟨a,?_⟩;have:cs=cs.toList.toArray:=by simp
 rw[this,b]
end Go.S
