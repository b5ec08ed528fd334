import Derived.Test.YthnbpiejemlbeaaGreatI2a
set_option linter.all false
set_option maxRecDepth 100000
set_option maxHeartbeats 8000000
namespace Go.S
open Go.Sx Go.Proofs
variable {k:Value->ad->Prop}{h:ad}
theorem Hx{xr:Row}{e f:Option Addr}{n p d t:Nat}(q:Sl 45 bA h (.slice e n p) xr)(o:Sl 45 bA h (.slice f d t) xr)(B:k (.bool true) h):
 Ct 280 [.slice e n p,.slice f d t] h k:=by
 obtain⟨A,j⟩:=Ar.ex;have E:=q.len;have C:=o.len;have Q:=q.bound.1;have F:A .aN .neq (A .nat n) (A .nat d)=false:=by rw[E,C,az A];simp
 have N:∀s:ByteArray,A .kM .neq s s=false:=λs=>by rw[j.kM];simp[Sx.kM]
 have M:∀z:Int,A .aN .neq z z=false:=λz=>by rw[az A];simp
 have J:∀(a b:Int) (s:ByteArray),A .not (A .and (A .aN .eql a a) (A .and (A .aN .eql b b) (A .and (A .kM .eql s s) true)))=false:=λa b s=>by
  rw[j.not,j.and,au A,au A,eK A];simp
 refine fz aKG A Tryz.func280 ?_;cbv;rw[F];cbv;refine aX.go (G:=Int) (λg=>[(5,.v (.int .i64 g))]) (λ_=>[]) (λm g h'=>h'=h/\∃i,aZ g i/\m=n-i/\i<=n) n 0 (by constructor<;>cbv) ⟨rfl,0,⟨rfl⟩,by omega,by omega⟩ ?_
 intro m g h' I;cbv;obtain⟨rfl,i,c,L,K⟩:=I;refine ba (λl=>?_) (λl=>?_)
 .have U:=c.lt l;clear l;obtain⟨⟨v,w,x⟩,hx⟩:=cB xr i;have H:e.isSome=true/\0<=g/\g<(n:Int):=⟨q.bp,c.ix U⟩;have D:f.isSome=true/\0<=g/\g<(d:Int):=⟨o.bp,c.ix (by omega)⟩;have u:=c.eq;have y:=c.succ (A:=A);cbv;refine⟨H,?_⟩;cbv;refine q.load hx u (λcs r=>?_);have r:cs=[.int .i64 v,.int .i64 w,.string x]:=r;subst r;cbv;refine⟨D,?_⟩;cbv;refine o.load hx u (λcs r=>?_);have r:cs=[.int .i64 v,.int .i64 w,.string x]:=r;subst r;cbv;rw[J];cbv;refine⟨n-(i+1),_,by omega,by constructor<;>cbv,rfl,i+1,y,rfl,by omega⟩
 cbv;exact B
theorem bJc{xs:List Row}{b c:Option Addr}{n f a j:Nat}(q:Sl 46 bF h (.slice b n f) xs)(e:Sl 46 bF h (.slice c a j) xs)(s:k (.bool true) h):
 Ct 158 [.slice b n f,.slice c a j] h k:=by
 obtain⟨A,p⟩:=Ar.ex;have E:=q.len;have t:=e.len;have Q:=q.bound.1;have v:A .aN .neq (A .nat n) (A .nat a)=false:=by rw[E,t,az A];simp
 have X:A .not true=false:=by rw[p.not];rfl
 refine fz eZR A Tryz.func158 ?_;cbv;rw[v];cbv;refine aX.go (G:=Int) (λg=>[(5,.v (.int .i64 g))]) (λ_=>[]) (λm g h'=>h'=h/\∃i,aZ g i/\m=n-i/\i<=n) n 0 (by constructor<;>cbv) ⟨rfl,0,⟨rfl⟩,by omega,by omega⟩ ?_
 intro m g h' I;cbv;obtain⟨rfl,i,z,y,w⟩:=I;refine ba (λd=>?_) (λd=>?_)
 .have U:=z.lt d;clear d;obtain⟨x,hx⟩:=cB xs i;have H:b.isSome=true/\0<=g/\g<(n:Int):=⟨q.bp,z.ix U⟩;have u:c.isSome=true/\0<=g/\g<(a:Int):=⟨e.bp,z.ix (by omega)⟩;have l:=z.eq;have o:=z.succ (A:=A);cbv;refine⟨H,?_⟩;cbv;refine q.load hx l (λcs r=>?_);obtain⟨B,rfl,s1⟩:=r;obtain⟨D,F,J,rfl⟩:=s1.form;cbv;refine⟨u,?_⟩;cbv;refine e.load hx l (λcs r=>?_);obtain⟨C,rfl,s2⟩:=r;obtain⟨y1,y2,y3,rfl⟩:=s2.form;cbv;refine Hx (xr:=x) s1 s2 ?_;cbv;rw[X];cbv;refine⟨n-(i+1),_,by omega,by constructor<;>cbv,rfl,i+1,o,rfl,by omega⟩
 cbv;exact s
set_option maxHeartbeats 4000000
structure SO(R:List Row):Prop where
 sr:SR R
 ok:∀row∈R,fY row
 le:R.length<=200
theorem SO.nil:SO []:=⟨SR.nil,by simp,by simp⟩
def hR:bU:=⟨0,jx,false⟩
end Go.S
