import Derived.WalkKit
import Derived.ProofKit
import Derived.OpenShut
import Derived.ReadAgain
import Derived.ChangeFn
import Derived.Test.YtekoaiendgjkdaaGreatRd
import Derived.Test.YtekoaiendgjkdaaGreatRows
import Derived.Test.YtekoaiendgjkdaaGreatEC
set_option linter.unusedVariables false
set_option linter.unusedSimpArgs false
set_option linter.unusedSectionVars false
namespace Go.Sx
open Go.ChangeShapes Go.WideShapes Go.ChangeAt Go.RowKit
variable {P:Program}
theorem Fv{W W':World}(eZx:W'.os=W.os)(dJY:W'.output=W.output)(hb:∀b,b<W.heap.size->W'.heap[b]? =W.heap[b]?)(may:MemPlace->Prop):W.keptBut W' may:=by
 refine⟨eZx,dJY,fun i hi=>?_⟩;rw[hb i hi];cases h:W.heap[i]? with
 |none=>rfl
 |some o=>cases o<;>simp
theorem JU{H:Type}{enc:TypeId×Value->H}{W W':World}(hb:∀b,b<W.heap.size->W'.heap[b]? =W.heap[b]?):∀ {ts:List TypeId} {vs:List Value} {ds:List (DataW H)} {ps:List MemPlace},
 DataW.TrodAll enc P W 0 (fun _=>true) true ts vs ds ps->DataW.TrodAll enc P W' 0 (fun _=>true) true ts vs ds ps
 | [],[],[],_,h=>h
 |t::ts,v::vs,d::ds,ps,h=>by
  obtain⟨p,q,⟨n,h1⟩,h2,e⟩:=h;have aP:=DataW.TrodAll.lt (show DataW.TrodAll enc P W 0 (fun _=>true) true (t::ts) (v::vs) (d::ds) ps from⟨p,q,⟨n,h1⟩,h2,e⟩);refine⟨p,q,⟨n,DataW.trod_carry n t _ _ h1 (fun x hx=>?_)⟩,JU hb h2,e⟩;have Ah:=aP x (by rw[e];exact mXK _ hx);cases x with
  |cell b off=>have Ah:b<W.heap.size:=Ah;simp only[World.sameAt,World.cell?,hb b Ah]
  |map b=>exact hb b Ah
theorem Ya{H:Type}{enc:TypeId×Value->H}{f:Func}{s:ChangeSpec}{W W':World}{args:Array Value}{ds gs:List (DataW H)}{before:List MemPlace}(hl:laidOutB P=true)(hm:mapsRowed P=true)
 (hz:((List.range P.types.size).all fun t=>match P.underlying t with|some (.slice e)=>decide (0<P.cellsOf e) |_=>true)=true) (gJN:(f.params.toList.all fun t=>decide (t<P.types.size))=true)
 (eZv:f.resultTypes= #[4]) (h4:P.underlying 4=some .bool) (hW:DataW.Whole enc P f.params.toList s.vars false W args.toList ds gs before) (cJX:s.vars=[]) (jQ:s.fn H (ds++gs)={ results:=[.lit (.bool true)],args:=ds })
 (eZx:W'.os=W.os) (dJY:W'.output=W.output) (hb:∀b,b<W.heap.size->W'.heap[b]? =W.heap[b]?):s.post enc P f false true false false W args (.bool true) W':=by
 have iXZ:=hW;obtain⟨p,q,hA,hV,rfl,-,-⟩:=hW;rw[cJX]at hV;obtain⟨rfl,rfl⟩:=trodVars_none hV;have cKg:=DataW.TrodAll.lt hA;refine⟨ds,[],p++[],[],p,[],iXZ,?_,?_,?_,Fv eZx dJY hb _,fun h=>by cases h⟩
 ·rw[jQ,eZv];exact trodAll_cons_mk (shut_bool h4 _) trodAll_mk0
 ·rw[jQ];have hg:=JU hb hA;refine hg.respare (kids_rows hl hm) (slices_full_of P hz) (fun t ht=>by simpa using mXf.1 gJN t ht) (fun x hx=>?_);simpa using cKg x hx
 ·rw[cJX,jQ];rfl
end Go.Sx
set_option maxRecDepth 100000
set_option maxHeartbeats 8000000
namespace Go.S
open Go.Sx Go.Proofs Go.ChangeShapes Go.WideShapes Go.ChangeAt Go.RowKit
def full(w:World):ad:=fun b=>w.heap[b]?
theorem bQo(w:World):Fo (full w) w:=fun b o h=>h
theorem YB{f:FuncId}{args:List Value}{w:World}(c:Ct f args (full w) (fun v h'=>Le (full w) h'/\v=.bool true)):
 Calls Tryz.prog f args.toArray w fun e w'=>e=.returned (.bool true)/\w'.os=w.os/\w'.output=w.output/\∀b,b<w.heap.size->w'.heap[b]? =w.heap[b]? :=
 (c.out w (bQo w)).mono fun e w' ⟨v,h',he,⟨hl,hv⟩,ha⟩=>by
  subst hv;refine⟨he,ha.os,ha.output,fun b hb=>?_⟩;have h1:w.heap[b]? =some w.heap[b]:=by simp[hb]
  rw[ha.IV b _ (hl b _ (show full w b=_ from h1)),h1]
theorem cZG(b o n:Nat):(⟨b,o,none⟩:Addr).add n=⟨b,o+n,none⟩:=dF b o n
theorem KA{n:Int}(h:(Lit.int .i64 n).wf=true):-2^63<=n/\n<2^63:=by
 have h:IntKind.i64.min<=n/\n<=9223372036854775807:=by simpa[Lit.wf]using h
 have hm:IntKind.i64.min=-9223372036854775808:=by decide
 rw[hm]at h;omega
end Go.S
