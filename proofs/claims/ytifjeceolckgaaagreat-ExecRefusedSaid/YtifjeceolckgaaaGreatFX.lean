import Derived.WalkKit
import Derived.ProofKit
import Derived.OpenShut
import Derived.Test.YtifjeceolckgaaaGreatRows
import Derived.Test.YtifjeceolckgaaaGreatEC
set_option linter.all false
namespace Go.Sx
open Go.ChangeShapes Go.WideShapes Go.ChangeAt Go.RowKit
variable {H:Type}{enc:TypeId×Value->H}{W a:World}
variable {P:Program}
theorem Fv(e:a.os=W.os)(d:a.output=W.output)(c:∀b,b<W.heap.size->a.heap[b]? =W.heap[b]?)(m:MemPlace->Prop):W.keptBut a m:=by
 refine⟨e,d,λi f=>?_⟩;rw[c i f];cases h:W.heap[i]? with
 |none=>rfl
 |some o=>cases o<;>simp
theorem JU{f:World}(c:∀b,b<W.heap.size->f.heap[b]? =W.heap[b]?):∀ {ts:List TypeId} {a:List Value} {ds:List (DataW H)} {s:List MemPlace},
 DataW.TrodAll enc P W 0 (λ_=>true) true ts a ds s->DataW.TrodAll enc P f 0 (λ_=>true) true ts a ds s
 | [],[],[],_,h=>h
 |t::ts,v::a,d::ds,s,h=>by
  obtain⟨p,q,⟨n,g⟩,i,e⟩:=h;have j:=DataW.TrodAll.lt (show DataW.TrodAll enc P W 0 (λ_=>true) true (t::ts) (v::a) (d::ds) s from⟨p,q,⟨n,g⟩,i,e⟩);refine⟨p,q,⟨n,DataW.trod_carry n t _ _ g (λx hx=>?_)⟩,JU c i,e⟩;have A:=j x (by rw[e];exact mZf _ hx);cases x with
  |cell b off=>have A:b<W.heap.size:=A;simp only[World.sameAt,World.cell?,c b A]
  |map b=>exact c b A
theorem Ya{f:Func}{s:ChangeSpec}{args:Array Value}{ds k:List (DataW H)}{o:List MemPlace}(u:laidOutB P=true)(v:mapsRowed P=true)
 (z:((List.range P.types.size).all λt=>match P.underlying t with|some (.slice e)=>decide (0<P.cellsOf e) |_=>true)=true) (J:(f.params.toList.all λt=>decide (t<P.types.size))=true)
 (Z:f.resultTypes= #[4]) (n:P.underlying 4=some .bool) (l:DataW.Whole enc P f.params.toList s.vars false W args.toList ds k o) (c:s.vars=[]) (j:s.fn H (ds++k)={ results:=[.lit (.bool true)],args:=ds })
 (g:a.os=W.os) (d:a.output=W.output) (m:∀b,b<W.heap.size->a.heap[b]? =W.heap[b]?):s.post enc P f false true false false W args (.bool true) a:=by
 have i:=l;obtain⟨p,q,A,V,rfl,-,-⟩:=l;rw[c]at V;obtain⟨rfl,rfl⟩:=trodVars_none V;have K:=DataW.TrodAll.lt A;refine⟨ds,[],p++[],[],p,[],i,?_,?_,?_,Fv g d m _,λh=>by cases h⟩
 .rw[j,Z];exact trodAll_cons_mk (shut_bool n _) trodAll_mk0
 .rw[j];have r:=JU m A;refine r.respare (kids_rows u v) (slices_full_of P z) (λt w=>by simpa using mXq.1 J t w) (λx hx=>?_);simpa using K x hx
 rw[c,j];rfl
end Go.Sx
set_option maxRecDepth 100000
set_option maxHeartbeats 8000000
namespace Go.S
open Go.Sx Go.Proofs Go.ChangeShapes Go.WideShapes Go.ChangeAt Go.RowKit
def full(w:World):ad:=λb=>w.heap[b]?
theorem bQo(w:World):Fo (full w) w:=λb o h=>h
theorem YB{f:FuncId}{args:List Value}{w:World}(c:Ct f args (full w) (λv h'=>Le (full w) h'/\v=.bool true)):
 Calls Tryz.prog f args.toArray w λe w'=>e=.returned (.bool true)/\w'.os=w.os/\w'.output=w.output/\∀b,b<w.heap.size->w'.heap[b]? =w.heap[b]? :=
 (c.out w (bQo w)).mono λe w' ⟨v,h',he,⟨l,g⟩,h⟩=>by
  subst g;refine⟨he,h.os,h.output,λb d=>?_⟩;have a:w.heap[b]? =some w.heap[b]:=by simp[d]
  rw[h.IV b _ (l b _ (show full w b=_ from a)),a]
theorem cZG(b o n:Nat):(⟨b,o,none⟩:Addr).add n=⟨b,o+n,none⟩:=dF b o n
end Go.S
