import Derived.Test.YthnbpiejemlbeaaGreatGC
set_option linter.all false
set_option maxRecDepth 100000
set_option maxHeartbeats 8000000
namespace Go.S
open Go.Sx Go.Proofs
theorem Cs{x:cR}{h:ad}{d e:Option Addr}{n l c o:Nat}(q:Sl 45 bG h (.slice d n l) x.row)(j:Sl 45 bG h (.slice e c o) x.row){k:Value->ad->Prop}(D:k (.bool true) h):
 Ct 194 [.agg #[.string x.table,.zI x.op,.slice d n l],.agg #[.string x.table,.zI x.op,.slice e c o]] h k:=by
 obtain⟨A,p⟩:=Ar.ex;obtain⟨B,y,xr⟩:=x;have q:Sl 45 bG h (.slice d n l) xr:=q;have j:Sl 45 bG h (.slice e c o) xr:=j;have F:=q.len;have N:=j.len;have Q:=q.bound.1;have L:A .aQ .neq (A .nat n) (A .nat c)=false:=by rw[F,N,aJ A];simp
 have J:∀s:ByteArray,A .lu .neq s s=false:=λs=>by rw[p.lu];simp[Sx.lu]
 have E:∀z:Int,A .aQ .neq z z=false:=λz=>by rw[aJ A];simp
 have K:∀(a b:Int) (s:ByteArray),A .not (A .and (A .aQ .eql a a) (A .and (A .aQ .eql b b) (A .and (A .lu .eql s s) true)))=false:=λa b s=>by
  rw[p.not,p.and,au A,au A,eV A];simp
 refine kh eJJ A Tryz.func194 ?_;cbv;rw[J];cbv;rw[E];cbv;rw[L];cbv;refine ba.gz (G:=Int) (λg=>[(5,.v (.zI g))]) (λ_=>[(2,[.string B,.zI y,.slice d n l]),(3,[.string B,.zI y,.slice e c o])]) (λm g h'=>h'=h/\∃i,bg g i/\m=n-i/\i<=n) n 0 ⟨rfl,0,⟨rfl⟩,ip,ip⟩ ?_
 intro m g h' C;cbv;obtain⟨rfl,i,f,P,M⟩:=C;refine bm (λt=>?_) (λt=>?_)
 .have Z:=f.lt t;clear t;obtain⟨⟨v,u,w⟩,hx⟩:=cK xr i;have Y:d.isSome=true/\0<=g/\g<(n:Int):=⟨q.bu,f.ix Z⟩;have H:e.isSome=true/\0<=g/\g<(c:Int):=⟨j.bu,f.ix ip⟩;have I:=f.eq;have O:=f.succ (A:=A);cbv;refine⟨Y,?_⟩;cbv;refine q.load hx I (λcs r=>?_);have r:cs=[.zI v,.zI u,.string w]:=r;subst r;cbv;refine⟨H,?_⟩;cbv;refine j.load hx I (λcs r=>?_);have r:cs=[.zI v,.zI u,.string w]:=r;subst r;cbv;rw[K];cbv;refine zqn (n-(i+1)) _ ip ⟨rfl,i+1,O,rfl,ip⟩
 cbv;exact D
end Go.S
