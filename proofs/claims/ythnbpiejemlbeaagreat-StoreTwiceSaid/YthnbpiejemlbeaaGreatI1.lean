import Derived.Test.YthnbpiejemlbeaaGreatGC
set_option linter.all false
set_option maxRecDepth 100000
set_option maxHeartbeats 8000000
namespace Go.S
open Go.Sx Go.Proofs
theorem BO{x:cV}{h:ad}{d e:Option Addr}{n l c o:Nat}(q:Sl 45 bA h (.slice d n l) x.row)(j:Sl 45 bA h (.slice e c o) x.row){k:Value->ad->Prop}(E:k (.bool true) h):
 Ct 194 [.agg #[.string x.table,.int .i64 x.op,.slice d n l],.agg #[.string x.table,.int .i64 x.op,.slice e c o]] h k:=by
 obtain⟨A,p⟩:=Ar.ex;obtain⟨C,B,xr⟩:=x;have q:Sl 45 bA h (.slice d n l) xr:=q;have j:Sl 45 bA h (.slice e c o) xr:=j;have K:=q.len;have H:=j.len;have R:=q.bound.1;have O:A .aN .neq (A .nat n) (A .nat c)=false:=by rw[K,H,az A];simp
 have N:∀s:ByteArray,A .kM .neq s s=false:=λs=>by rw[p.kM];simp[Sx.kM]
 have F:∀z:Int,A .aN .neq z z=false:=λz=>by rw[az A];simp
 have J:∀(a b:Int) (s:ByteArray),A .not (A .and (A .aN .eql a a) (A .and (A .aN .eql b b) (A .and (A .kM .eql s s) true)))=false:=λa b s=>by
  rw[p.not,p.and,au A,au A,eK A];simp
 refine fz eZn A Tryz.func194 ?_;cbv;rw[N];cbv;rw[F];cbv;rw[O];cbv;refine aX.go (G:=Int) (λg=>[(5,.v (.int .i64 g))]) (λ_=>[(2,[.string C,.int .i64 B,.slice d n l]),(3,[.string C,.int .i64 B,.slice e c o])]) (λm g h'=>h'=h/\∃i,aZ g i/\m=n-i/\i<=n) n 0 (by constructor<;>cbv) ⟨rfl,0,⟨rfl⟩,by omega,by omega⟩ ?_
 intro m g h' I;cbv;obtain⟨rfl,i,f,Q,P⟩:=I;refine ba (λt=>?_) (λt=>?_)
 .have U:=f.lt t;clear t;obtain⟨⟨v,w,y⟩,hx⟩:=cB xr i;have L:d.isSome=true/\0<=g/\g<(n:Int):=⟨q.bp,f.ix U⟩;have M:e.isSome=true/\0<=g/\g<(c:Int):=⟨j.bp,f.ix (by omega)⟩;have u:=f.eq;have D:=f.succ (A:=A);cbv;refine⟨L,?_⟩;cbv;refine q.load hx u (λcs r=>?_);have r:cs=[.int .i64 v,.int .i64 w,.string y]:=r;subst r;cbv;refine⟨M,?_⟩;cbv;refine j.load hx u (λcs r=>?_);have r:cs=[.int .i64 v,.int .i64 w,.string y]:=r;subst r;cbv;rw[J];cbv;refine⟨n-(i+1),_,by omega,by constructor<;>cbv,rfl,i+1,D,rfl,by omega⟩
 cbv;exact E
end Go.S
