import Derived.WalkKit
import Derived.ProofKit
import Derived.OpenShut
import Derived.Test.YthnbpiejemlbeaaGreatRows
import Derived.Test.YthnbpiejemlbeaaGreatEC
set_option linter.all false
namespace Go.Sx
open Go.ChangeShapes Go.WideShapes Go.ChangeAt Go.RowKit
variable {H:Type}{enc:TypeId×Value->H}
variable {P:Program}
theorem Ao{W a:World}(f:a.os=W.os)(Q:a.output=W.output)(c:∀b,b<W.heap.size->a.heap[b]? =W.heap[b]?)(m:MemPlace->Prop):W.keptBut a m:=by
 refine⟨f,Q,λi d=>?_⟩;rw[c i d];cases h:W.heap[i]? with
 |none=>rfl
 |some o=>cases o<;>simp
theorem Ea{W g:World}(f:∀b,b<W.heap.size->g.heap[b]? =W.heap[b]?):∀ {a:List TypeId} {c:List Value} {ds:List (DataW H)} {s:List MemPlace},
 DataW.TrodAll enc P W 0 (λ_=>true) true a c ds s->DataW.TrodAll enc P g 0 (λ_=>true) true a c ds s
 | [],[],[],_,h=>h
 |t::a,v::c,d::ds,s,h=>by
  obtain⟨p,q,⟨n,i⟩,j,e⟩:=h;have F:=DataW.TrodAll.lt (show DataW.TrodAll enc P W 0 (λ_=>true) true (t::a) (v::c) (d::ds) s from⟨p,q,⟨n,i⟩,j,e⟩);refine⟨p,q,⟨n,DataW.trod_carry n t _ _ i (λx hx=>?_)⟩,Ea f j,e⟩;have J:=F x (by rw[e];exact List.mem_append_left _ hx);cases x with
  |cell b off=>have J:b<W.heap.size:=J;simp only[World.sameAt,World.cell?,f b J]
  |map b=>exact f b J
theorem Ov{f:Func}{s:ChangeSpec}{W c:World}{args:Array Value}{ds g:List (DataW H)}{o:List MemPlace}(hl:laidOutB P=true)(m:mapsRowed P=true)
 (z:((List.range P.types.size).all λt=>match P.underlying t with|some (.slice e)=>decide (0<P.cellsOf e) |_=>true)=true) (K:(f.params.toList.all λt=>decide (t<P.types.size))=true)
 (j:f.resultTypes= #[4]) (k:P.underlying 4=some .bool) (d:DataW.Whole enc P f.params.toList s.vars false W args.toList ds g o) (a:s.vars=[]) (G:s.fn H (ds++g)={ results:=[.lit (.bool true)],args:=ds })
 (X:c.os=W.os) (r:c.output=W.output) (i:∀b,b<W.heap.size->c.heap[b]? =W.heap[b]?):s.post enc P f false true false false W args (.bool true) c:=by
 have J:=d;obtain⟨p,q,A,V,rfl,-,-⟩:=d;rw[a]at V;obtain⟨rfl,rfl⟩:=trodVars_none V;have Q:=DataW.TrodAll.lt A;refine⟨ds,[],p++[],[],p,[],J,?_,?_,?_,Ao X r i _,λh=>by cases h⟩
 .rw[G,j];exact trodAll_cons_mk (shut_bool k _) trodAll_mk0
 .rw[G];have l:=Ea i A;refine l.respare (kids_rows hl m) (slices_full_of P z) (λt n=>by simpa using List.all_eq_true.1 K t n) (λx hx=>?_);simpa using Q x hx
 rw[a,G];rfl
end Go.Sx
set_option maxRecDepth 100000
set_option maxHeartbeats 8000000
namespace Go.S
open Go.Sx Go.Proofs Go.ChangeShapes Go.WideShapes Go.ChangeAt Go.RowKit
def full(w:World):ab:=λb=>w.heap[b]?
theorem UX(w:World):AI (full w) w:=λb o h=>h
theorem OR{f:FuncId}{args:List Value}{w:World}(c:Ct f args (full w) (λv h'=>Le (full w) h'/\v=.bool true)):
 Calls Tryz.prog f args.toArray w λe a=>e=.returned (.bool true)/\a.os=w.os/\a.output=w.output/\∀b,b<w.heap.size->a.heap[b]? =w.heap[b]? :=
 (c.out w (UX w)).mono λe a ⟨v,h',he,⟨hl,i⟩,h⟩=>by
  subst i;refine⟨he,h.os,h.output,λb g=>?_⟩;have d:w.heap[b]? =some w.heap[b]:=by simp[g]
  rw[h.Bf b _ (hl b _ (show full w b=_ from d)),d]
theorem yQ{n:Int}(h:(Lit.int .i64 n).wf=true):-2^63<=n/\n<2^63:=by
 have h:IntKind.i64.min<=n/\n<=9223372036854775807:=by simpa[Lit.wf]using h
 have m:IntKind.i64.min=-9223372036854775808:=by decide
 rw[m]at h;omega
end Go.S
