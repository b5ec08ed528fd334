import Derived.WalkKit
import Derived.ProofKit
import Derived.OpenShut
import Derived.ReadAgain
import Derived.ChangeFn
import Derived.Test.YtekoaiendgjkdaaGreatRd
set_option linter.unusedVariables false
set_option linter.unusedSimpArgs false
set_option linter.unusedSectionVars false
namespace Go.Sx
open Go.ChangeShapes Go.WideShapes Go.ChangeAt Go.RowKit
variable {P:Program}
theorem Fv{W W':World}(eZx:W'.os=W.os)(dJY:W'.output=W.output)(hb:∀b,b<W.heap.size->W'.heap[b]? =W.heap[b]?)(may:MemPlace->Prop):W.keptBut W' may:=by
 refine⟨eZx,dJY,fun i hi=>?_⟩;rw[hb i hi];cases h:W.heap[i]? with
 |none=>rfl
 |some o=>cases o<;>simp
theorem JU{H:Type}{enc:TypeId×Value->H}{W W':World}(hb:∀b,b<W.heap.size->W'.heap[b]? =W.heap[b]?):∀ {ts:List TypeId} {vs:List Value} {ds:List (DataW H)} {ps:List MemPlace},
 DataW.TrodAll enc P W 0 (fun _=>true) true ts vs ds ps->DataW.TrodAll enc P W' 0 (fun _=>true) true ts vs ds ps
 | [],[],[],_,h=>h
 |t::ts,v::vs,d::ds,ps,h=>by
  obtain⟨p,q,⟨n,h1⟩,h2,e⟩:=h;have aP:=DataW.TrodAll.lt (show DataW.TrodAll enc P W 0 (fun _=>true) true (t::ts) (v::vs) (d::ds) ps from⟨p,q,⟨n,h1⟩,h2,e⟩);refine⟨p,q,⟨n,DataW.trod_carry n t _ _ h1 (fun x hx=>?_)⟩,JU hb h2,e⟩;have Ah:=aP x (by rw[e];exact List.mem_append_left _ hx);cases x with
  |cell b off=>have Ah:b<W.heap.size:=Ah;simp only[World.sameAt,World.cell?,hb b Ah]
  |map b=>exact hb b Ah
theorem Ya{H:Type}{enc:TypeId×Value->H}{f:Func}{s:ChangeSpec}{W W':World}{args:Array Value}{ds gs:List (DataW H)}{before:List MemPlace}(hl:laidOutB P=true)(hm:mapsRowed P=true)
 (hz:((List.range P.types.size).all fun t=>match P.underlying t with|some (.slice e)=>decide (0<P.cellsOf e) |_=>true)=true) (gJN:(f.params.toList.all fun t=>decide (t<P.types.size))=true)
 (eZv:f.resultTypes= #[4]) (h4:P.underlying 4=some .bool) (hW:DataW.Whole enc P f.params.toList s.vars false W args.toList ds gs before) (cJX:s.vars=[]) (jQ:s.fn H (ds++gs)={ results:=[.lit (.bool true)],args:=ds })
 (eZx:W'.os=W.os) (dJY:W'.output=W.output) (hb:∀b,b<W.heap.size->W'.heap[b]? =W.heap[b]?):s.post enc P f false true false false W args (.bool true) W':=by
 have iXZ:=hW;obtain⟨p,q,hA,hV,rfl,-,-⟩:=hW;rw[cJX]at hV;obtain⟨rfl,rfl⟩:=trodVars_none hV;have cKg:=DataW.TrodAll.lt hA;refine⟨ds,[],p++[],[],p,[],iXZ,?_,?_,?_,Fv eZx dJY hb _,fun h=>by cases h⟩
 ·rw[jQ,eZv];exact trodAll_cons_mk (shut_bool h4 _) trodAll_mk0
 ·rw[jQ];have hg:=JU hb hA;refine hg.respare (kids_rows hl hm) (slices_full_of P hz) (fun t ht=>by simpa using List.all_eq_true.1 gJN t ht) (fun x hx=>?_);simpa using cKg x hx
 ·rw[cJX,jQ];rfl
end Go.Sx
