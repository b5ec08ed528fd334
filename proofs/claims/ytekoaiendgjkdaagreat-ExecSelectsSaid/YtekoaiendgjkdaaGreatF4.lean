import Derived.Test.YtekoaiendgjkdaaGreatRows
import Derived.Test.YtekoaiendgjkdaaGreatF3
import Derived.Test.YtekoaiendgjkdaaGreatEC
set_option linter.unusedVariables false
set_option linter.unusedSimpArgs false
set_option linter.unusedSectionVars false
set_option maxRecDepth 100000
set_option maxHeartbeats 8000000
namespace Go.S
open Go.Sx Go.Proofs Go.ChangeShapes Go.WideShapes Go.ChangeAt Go.RowKit
def full(w:World):ad:=fun b=>w.heap[b]?
theorem bQo(w:World):Fo (full w) w:=fun b o h=>h
theorem YB{f:FuncId}{args:List Value}{w:World}(c:Ct f args (full w) (fun v h'=>Le (full w) h'/\v=.bool true)):
 Calls Tryz.prog f args.toArray w fun e w'=>e=.returned (.bool true)/\w'.os=w.os/\w'.output=w.output/\∀b,b<w.heap.size->w'.heap[b]? =w.heap[b]? :=
 (c.out w (bQo w)).mono fun e w' ⟨v,h',he,⟨hl,hv⟩,ha⟩=>by
  subst hv;refine⟨he,ha.os,ha.output,fun b hb=>?_⟩;have h1:w.heap[b]? =some w.heap[b]:=by simp[hb]
  rw[ha.IV b _ (hl b _ (show full w b=_ from h1)),h1]
theorem cZG(b o n:Nat):(⟨b,o,none⟩:Addr).add n=⟨b,o+n,none⟩:=dF b o n
theorem KA{n:Int}(h:(Lit.int .i64 n).wf=true):-2^63<=n/\n<2^63:=by
 have h:IntKind.i64.min<=n/\n<=9223372036854775807:=by simpa[Lit.wf]using h
 have hm:IntKind.i64.min=-9223372036854775808:=by decide
 rw[hm]at h;omega
end Go.S
