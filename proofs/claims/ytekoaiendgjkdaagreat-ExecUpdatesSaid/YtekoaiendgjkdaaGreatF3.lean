import Derived.WalkKit
import Derived.ProofKit
import Derived.OpenShut
import Derived.ReadAgain
import Derived.ChangeFn
import Derived.Test.YtekoaiendgjkdaaGreatRd
set_option linter.unusedVariables false
set_option linter.unusedSimpArgs false
set_option linter.unusedSectionVars false
namespace Go.Sx
open Go.ChangeShapes Go.WideShapes Go.ChangeAt Go.RowKit
variable {P:Program}
theorem uj{W W':World}(Xu:W'.os=W.os)(UR:W'.output=W.output)(hb:∀b,b<W.heap.size->W'.heap[b]? =W.heap[b]?)(may:MemPlace->Prop):W.keptBut W' may:=by
 refine⟨Xu,UR,fun i hi=>?_⟩;rw[hb i hi];cases h:W.heap[i]? with
 |none=>rfl
 |some o=>cases o<;>simp
theorem xV{H:Type}{enc:TypeId×Value->H}{W W':World}(hb:∀b,b<W.heap.size->W'.heap[b]? =W.heap[b]?):∀ {ts:List TypeId} {vs:List Value} {ds:List (DataW H)} {ps:List MemPlace},
 DataW.TrodAll enc P W 0 (fun _=>true) true ts vs ds ps->DataW.TrodAll enc P W' 0 (fun _=>true) true ts vs ds ps
 | [],[],[],_,h=>h
 |t::ts,v::vs,d::ds,ps,h=>by
  obtain⟨p,q,⟨n,h1⟩,h2,e⟩:=h;have aK:=DataW.TrodAll.lt (show DataW.TrodAll enc P W 0 (fun _=>true) true (t::ts) (v::vs) (d::ds) ps from⟨p,q,⟨n,h1⟩,h2,e⟩);refine⟨p,q,⟨n,DataW.trod_carry n t _ _ h1 (fun x hx=>?_)⟩,xV hb h2,e⟩;have DP:=aK x (by rw[e];exact List.mem_append_left _ hx);cases x with
  |cell b off=>have DP:b<W.heap.size:=DP;simp only[World.sameAt,World.cell?,hb b DP]
  |map b=>exact hb b DP
theorem yf{H:Type}{enc:TypeId×Value->H}{f:Func}{s:ChangeSpec}{W W':World}{args:Array Value}{ds gs:List (DataW H)}{before:List MemPlace}(hl:laidOutB P=true)(hm:mapsRowed P=true)
 (hz:((List.range P.types.size).all fun t=>match P.underlying t with|some (.slice e)=>decide (0<P.cellsOf e) |_=>true)=true) (hts:(f.params.toList.all fun t=>decide (t<P.types.size))=true)
 (hrt:f.resultTypes= #[4]) (h4:P.underlying 4=some .bool) (hW:DataW.Whole enc P f.params.toList s.vars false W args.toList ds gs before) (QZ:s.vars=[]) (ZN:s.fn H (ds++gs)={ results:=[.lit (.bool true)],args:=ds })
 (Xu:W'.os=W.os) (UR:W'.output=W.output) (hb:∀b,b<W.heap.size->W'.heap[b]? =W.heap[b]?):s.post enc P f false true false false W args (.bool true) W':=by
 have hW':=hW;obtain⟨p,q,hA,hV,rfl,-,-⟩:=hW;rw[QZ]at hV;obtain⟨rfl,rfl⟩:=trodVars_none hV;have MT:=DataW.TrodAll.lt hA;refine⟨ds,[],p++[],[],p,[],hW',?_,?_,?_,uj Xu UR hb _,fun h=>by cases h⟩
 ·rw[ZN,hrt];exact trodAll_cons_mk (shut_bool h4 _) trodAll_mk0
 ·rw[ZN];have hg:=xV hb hA;refine hg.respare (kids_rows hl hm) (slices_full_of P hz) (fun t ht=>by simpa using List.all_eq_true.1 hts t ht) (fun x hx=>?_);simpa using MT x hx
 ·rw[QZ,ZN];rfl
end Go.Sx
