import Derived.WalkKit
import Derived.ProofKit
import Derived.OpenShut
import Derived.Test.YthnbpiejemlbeaaGreatRows
import Derived.Test.YthnbpiejemlbeaaGreatEC
set_option linter.all false
namespace Go.Sx
open Go.ChangeShapes Go.WideShapes Go.ChangeAt Go.RowKit
variable {H:Type}{enc:TypeId×Value->H}{a:World}
variable {P:Program}
theorem Dm{W:World}(g:a.os=W.os)(K:a.output=W.output)(c:∀b,b<W.heap.size->a.heap[b]? =W.heap[b]?)(m:MemPlace->Prop):W.keptBut a m:=by
 refine⟨g,K,λi d=>?_⟩;rw[c i d];cases h:W.heap[i]? with
 |none=>rfl
 |some o=>cases o<;>simp
theorem Hq{W f:World}(c:∀b,b<W.heap.size->f.heap[b]? =W.heap[b]?):∀ {ts:List TypeId} {a:List Value} {ds:List (DataW H)} {s:List MemPlace},
 DataW.TrodAll enc P W 0 (λ_=>true) true ts a ds s->DataW.TrodAll enc P f 0 (λ_=>true) true ts a ds s
 | [],[],[],_,h=>h
 |t::ts,v::a,d::ds,s,h=>by
  obtain⟨p,q,⟨n,g⟩,i,e⟩:=h;have U:=DataW.TrodAll.lt (show DataW.TrodAll enc P W 0 (λ_=>true) true (t::ts) (v::a) (d::ds) s from⟨p,q,⟨n,g⟩,i,e⟩);refine⟨p,q,⟨n,DataW.trod_carry n t _ _ g (λx hx=>?_)⟩,Hq c i,e⟩;have N:=U x (by rw[e];exact kXM _ hx);cases x with
  |cell b off=>have N:b<W.heap.size:=N;simp only[World.sameAt,World.cell?,c b N]
  |map b=>exact c b N
theorem SD{f:Func}{s:ChangeSpec}{W:World}{args:Array Value}{ds d:List (DataW H)}{o:List MemPlace}(hl:laidOutB P=true)(n:mapsRowed P=true)
 (z:((List.range P.types.size).all λt=>match P.underlying t with|some (.slice e)=>decide (0<P.cellsOf e) |_=>true)=true) (c:(f.params.toList.all λt=>decide (t<P.types.size))=true)
 (i:f.resultTypes= #[4]) (l:P.underlying 4=some .bool) (j:DataW.Whole enc P f.params.toList s.vars false W args.toList ds d o) (X:s.vars=[]) (J:s.fn H (ds++d)={ results:=[.lit (.bool true)],args:=ds })
 (B:a.os=W.os) (S:a.output=W.output) (k:∀b,b<W.heap.size->a.heap[b]? =W.heap[b]?):s.post enc P f false true false false W args (.bool true) a:=by
 have g:=j;obtain⟨p,q,A,V,rfl,-,-⟩:=j;rw[X]at V;obtain⟨rfl,rfl⟩:=trodVars_none V;have K:=DataW.TrodAll.lt A;refine⟨ds,[],p++[],[],p,[],g,?_,?_,?_,Dm B S k _,λh=>by cases h⟩
 .rw[J,i];exact trodAll_cons_mk (shut_bool l _) trodAll_mk0
 .rw[J];have m:=Hq k A;refine m.respare (kids_rows hl n) (slices_full_of P z) (λt r=>by simpa using jKy.1 c t r) (λx hx=>?_);simpa using K x hx
 rw[X,J];rfl
end Go.Sx
set_option maxRecDepth 100000
set_option maxHeartbeats 8000000
namespace Go.S
open Go.Sx Go.Proofs Go.ChangeShapes Go.WideShapes Go.ChangeAt Go.RowKit
def full(w:World):ad:=λb=>w.heap[b]?
theorem YS(w:World):DC (full w) w:=λb o h=>h
theorem SX{f:FuncId}{args:List Value}{w:World}(c:Ct f args (full w) (λv h'=>Le (full w) h'/\v=.bool true)):
 Calls Tryz.prog f args.toArray w λe w'=>e=.returned (.bool true)/\w'.os=w.os/\w'.output=w.output/\∀b,b<w.heap.size->w'.heap[b]? =w.heap[b]? :=
 (c.out w (YS w)).mono λe w' ⟨v,h',he,⟨hl,g⟩,h⟩=>by
  subst g;refine⟨he,h.os,h.output,λb d=>?_⟩;have a:w.heap[b]? =some w.heap[b]:=by simp[d]
  rw[h.Ee b _ (hl b _ (show full w b=_ from a)),a]
theorem aKC(b o n:Nat):(⟨b,o,none⟩:Addr).add n=⟨b,o+n,none⟩:=cI b o n
theorem Cd{n:Int}(h:(Lit.int .i64 n).wf=true):-2^63<=n/\n<2^63:=by
 have h:IntKind.i64.min<=n/\n<=9223372036854775807:=by simpa[Lit.wf]using h
 have m:IntKind.i64.min=-9223372036854775808:=by decide
 rw[m]at h;omega
end Go.S
