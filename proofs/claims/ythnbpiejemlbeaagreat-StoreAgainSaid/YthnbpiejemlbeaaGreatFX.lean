import Derived.WalkKit
import Derived.ProofKit
import Derived.OpenShut
import Derived.Test.YthnbpiejemlbeaaGreatRows
import Derived.Test.YthnbpiejemlbeaaGreatEC
set_option linter.all false
namespace Go.Sx
open Go.ChangeShapes Go.WideShapes Go.ChangeAt Go.RowKit
variable {H:Type}{enc:TypeId×Value->H}{a:World}
variable {P:Program}
theorem DY{W:World}(g:a.os=W.os)(c:a.output=W.output)(h:∀b,b<W.heap.size->a.heap[b]? =W.heap[b]?)(m:MemPlace->Prop):W.keptBut a m:=by
 refine⟨g,c,λi d=>?_⟩
 grind
theorem Il{W f:World}(c:∀b,b<W.heap.size->f.heap[b]? =W.heap[b]?):∀ {ts:List TypeId} {a:List Value} {ds:List (DataW H)} {s:List MemPlace},
 DataW.TrodAll enc P W 0 (λ_=>true) true ts a ds s->DataW.TrodAll enc P f 0 (λ_=>true) true ts a ds s
 | [],[],[],_,h=>h
 |t::ts,v::a,d::ds,s,h=>by
  obtain⟨p,q,⟨n,g⟩,i,e⟩:=h;have Z:=DataW.TrodAll.lt (show DataW.TrodAll enc P W 0 (λ_=>true) true (t::ts) (v::a) (d::ds) s from⟨p,q,⟨n,g⟩,i,e⟩);refine⟨p,q,⟨n,DataW.trod_carry n t _ _ g (λx hx=>?_)⟩,Il c i,e⟩;have O:=Z x gg;cases x with
  |cell b off=>have O:b<W.heap.size:=O;simp only[World.sameAt,World.cell?,c b O]
  |map b=>exact c b O
theorem Ur{f:Func}{s:ChangeSpec}{W:World}{args:Array Value}{ds i:List (DataW H)}{o:List MemPlace}(hl:laidOutB P=true)(r:mapsRowed P=true)
 (z:((List.range P.types.size).all λt=>match P.underlying t with|some (.slice e)=>decide (0<P.cellsOf e) |_=>true)=true) (d:(f.params.toList.all λt=>decide (t<P.types.size))=true)
 (j:f.resultTypes= #[4]) (m:P.underlying 4=some .bool) (k:DataW.Whole enc P f.params.toList s.vars false W args.toList ds i o) (Z:s.vars=[]) (K:s.fn H (ds++i)={ results:=[.lit (.bool true)],args:=ds })
 (g:a.os=W.os) (c:a.output=W.output) (l:∀b,b<W.heap.size->a.heap[b]? =W.heap[b]?):s.post enc P f false true false false W args (.bool true) a:=by
 have S:=k;obtain⟨p,q,A,V,rfl,-,-⟩:=k;rw[Z]at V;obtain⟨rfl,rfl⟩:=trodVars_none V;have X:=DataW.TrodAll.lt A;refine⟨ds,[],p++[],[],p,[],S,?_,?_,?_,DY g c l _,λh=>by cases h⟩
 .rw[K,j];exact trodAll_cons_mk (shut_bool m _) trodAll_mk0
 .rw[K];have n:=Il l A;refine n.respare (kids_rows hl r) (slices_full_of P z) (λt u=>by simpa using zG.1 d t u) (λx hx=>?_)
  grind
 rw[Z,K];rfl
end Go.Sx
set_option maxRecDepth 100000
set_option maxHeartbeats 8000000
namespace Go.S
open Go.Sx Go.Proofs Go.ChangeShapes Go.WideShapes Go.ChangeAt Go.RowKit
def full(w:World):ad:=λb=>w.heap[b]?
theorem aQs(w:World):Eo (full w) w:=λb o h=>h
theorem UE{f:FuncId}{args:List Value}{w:World}(c:Ct f args (full w) (λv h'=>Le (full w) h'/\v=.bool true)):
 Calls Tryz.prog f args.toArray w λe w'=>e=.returned (.bool true)/\w'.os=w.os/\w'.output=w.output/\∀b,b<w.heap.size->w'.heap[b]? =w.heap[b]? :=
 (c.out w (aQs w)).mono λe w' ⟨v,h',he,⟨hl,g⟩,h⟩=>by
  subst g;refine⟨he,h.os,h.output,λb d=>?_⟩;have a:w.heap[b]? =some w.heap[b]:=by simp[d]
  rw[h.EP b _ (hl b _ (show full w b=_ from a)),a]
theorem bQW(b o n:Nat):(⟨b,o,none⟩:Addr).add n=⟨b,o+n,none⟩:=cQ b o n
theorem CJ{n:Int}(h:(Lit.int .i64 n).wf=true):-2^63<=n/\n<2^63:=by
 have h:IntKind.i64.min<=n/\n<=9223372036854775807:=by simpa[Lit.wf]using h
 have m:IntKind.i64.min=-9223372036854775808:=dl
 grind
end Go.S
