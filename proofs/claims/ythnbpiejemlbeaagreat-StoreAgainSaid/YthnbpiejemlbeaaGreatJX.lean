import Derived.Test.YthnbpiejemlbeaaGreatI2a
set_option linter.all false
set_option maxRecDepth 100000
set_option maxHeartbeats 8000000
namespace Go.S
open Go.Sx Go.Proofs
variable {a:Int}{R:List Row}{p:Nat}{k:Value->ad->Prop}{h:ad}
theorem Iv{xr:Row}{e f:Option Addr}{n d t:Nat}(q:Sl 45 bG h (.slice e n p) xr)(o:Sl 45 bG h (.slice f d t) xr)(y:k (.bool true) h):
 Ct 280 [.slice e n p,.slice f d t] h k:=by
 obtain⟨A,j⟩:=Ar.ex;have B:=q.len;have N:=o.len;have J:=q.bound.1;have C:A .aQ .neq (A .nat n) (A .nat d)=false:=by rw[B,N,aJ A];simp
 have L:∀s:ByteArray,A .lu .neq s s=false:=λs=>by rw[j.lu];simp[Sx.lu]
 have H:∀z:Int,A .aQ .neq z z=false:=λz=>by rw[aJ A];simp
 have K:∀(a b:Int) (s:ByteArray),A .not (A .and (A .aQ .eql a a) (A .and (A .aQ .eql b b) (A .and (A .lu .eql s s) true)))=false:=λa b s=>by
  rw[j.not,j.and,au A,au A,eV A];simp
 refine kh bXa A Tryz.func280 ?_;cbv;rw[C];cbv;refine ba.gz (G:=Int) (λg=>[(5,.v (.zI g))]) (λ_=>[]) (λm g h'=>h'=h/\∃i,bg g i/\m=n-i/\i<=n) n 0 ⟨rfl,0,⟨rfl⟩,ip,ip⟩ ?_
 intro m g h' x;cbv;obtain⟨rfl,i,c,E,D⟩:=x;refine bm (λl=>?_) (λl=>?_)
 .have Z:=c.lt l;clear l;obtain⟨⟨v,u,w⟩,hx⟩:=cK xr i;have Y:e.isSome=true/\0<=g/\g<(n:Int):=⟨q.bu,c.ix Z⟩;have F:f.isSome=true/\0<=g/\g<(d:Int):=⟨o.bu,c.ix ip⟩;have I:=c.eq;have O:=c.succ (A:=A);cbv;refine⟨Y,?_⟩;cbv;refine q.load hx I (λcs r=>?_);have r:cs=[.zI v,.zI u,.string w]:=r;subst r;cbv;refine⟨F,?_⟩;cbv;refine o.load hx I (λcs r=>?_);have r:cs=[.zI v,.zI u,.string w]:=r;subst r;cbv;rw[K];cbv;refine zqn (n-(i+1)) _ ip ⟨rfl,i+1,O,rfl,ip⟩
 cbv;exact y
theorem bKC{xs:List Row}{b c:Option Addr}{n f a j:Nat}(q:Sl 46 bK h (.slice b n f) xs)(e:Sl 46 bK h (.slice c a j) xs)(p:k (.bool true) h):
 Ct 158 [.slice b n f,.slice c a j] h k:=by
 obtain⟨A,l⟩:=Ar.ex;have s:=q.len;have N:=e.len;have w:=q.bound.1;have u:A .aQ .neq (A .nat n) (A .nat a)=false:=by rw[s,N,aJ A];simp
 have E:A .not true=false:=by rw[l.not];rfl
 refine kh eKn A Tryz.func158 ?_;cbv;rw[u];cbv;refine ba.gz (G:=Int) (λg=>[(5,.v (.zI g))]) (λ_=>[]) (λm g h'=>h'=h/\∃i,bg g i/\m=n-i/\i<=n) n 0 ⟨rfl,0,⟨rfl⟩,ip,ip⟩ ?_
 intro m g h' o;cbv;obtain⟨rfl,i,z,v,t⟩:=o;refine bm (λd=>?_) (λd=>?_)
 .have Z:=z.lt d;clear d;obtain⟨x,hx⟩:=cK xs i;have Y:b.isSome=true/\0<=g/\g<(n:Int):=⟨q.bu,z.ix Z⟩;have F:c.isSome=true/\0<=g/\g<(a:Int):=⟨e.bu,z.ix ip⟩;have I:=z.eq;have O:=z.succ (A:=A);cbv;refine⟨Y,?_⟩;cbv;refine q.load hx I (λcs r=>?_);obtain⟨y,rfl,s1⟩:=r;obtain⟨C,D,H,rfl⟩:=s1.form;cbv;refine⟨F,?_⟩;cbv;refine e.load hx I (λcs r=>?_);obtain⟨B,rfl,s2⟩:=r;obtain⟨y1,y2,y3,rfl⟩:=s2.form;cbv;refine Iv (xr:=x) s1 s2 ?_;cbv;rw[E];cbv;refine zqn (n-(i+1)) _ ip ⟨rfl,i+1,O,rfl,ip⟩
 cbv;exact p
set_option maxHeartbeats 4000000
structure SO(R:List Row):Prop where
 sr:SR R
 ok:∀row∈R,gC row
 le:R.length<=200
theorem SO.nil:SO []:=⟨SR.nil,io,io⟩
theorem At.ins{v:jq}(q:At R a p):At (R.take p++[[⟨2,a,dQ⟩,v]]++R.drop p) a p/\jO (R.take p++[[⟨2,a,dQ⟩,v]]++R.drop p) a p=true:=by
 have d:=q.le;have t:(R.take p).length=p:=by simp;omega
 have e1:∀i,i<p->(R.take p++[[⟨2,a,dQ⟩,v]]++R.drop p)[i]? =R[i]? :=λi b=>by
  rw[kJk,kQU ip,kZo,if_pos b]
 have e:(R.take p++[[⟨2,a,dQ⟩,v]]++R.drop p)[p]? =some [⟨2,a,dQ⟩,v]:=by
  grind
 have c:∀i,p<i->(R.take p++[[⟨2,a,dQ⟩,v]]++R.drop p)[i]? =R[i-1]? :=λi b=>by
  rw[kXV (by simp;omega),kXz];congr 1;simp;omega
 refine⟨⟨by simp;omega,λi o b r=>?_,λi o b r=>?_⟩,?_⟩
 .rw[e1 i b]at r;exact q.lo i o b r
 .rcases Nat.eq_or_lt_of_le b with h|h
  .subst h;rw[e]at r;cases r;exact tB _
  rw[c i h]at r;exact q.hi (i-1) o ip r
 unfold jO;rw[e];exact kS rfl
theorem Kj{x:Row}(h:p<=R.length):(R.take p++[x]++R.drop p).take p++(R.take p++[x]++R.drop p).drop (p+1)=R:=by
 have t:(R.take p).length=p:=by simp;omega
 rw[kJk,kB ip,kXe ip,<-kJk,List.drop_append_of_le_length (by simp;omega),kXc (by simp;omega),kZA,GD]
theorem At.del(h:SR R)(q:At R a p)(k:jO R a p=true):At (R.take p++R.drop (p+1)) a p/\jO (R.take p++R.drop (p+1)) a p=false:=by
 have Z:p<R.length:=by
  grind [jO]
 have t:(R.take p).length=p:=by simp;omega
 have e1:∀i,i<p->(R.take p++R.drop (p+1))[i]? =R[i]? :=λi b=>by
  rw[kQU ip,kZo,if_pos b]
 have e:∀i,p<=i->(R.take p++R.drop (p+1))[i]? =R[i+1]? :=λi b=>by
  grind
 have d:∀i r,p<i->R[i]? =some r->a<kN r:=λi r b c=>by
  unfold jO at k;obtain⟨K,u⟩:=ay Z;rw[u]at k;have g:kN K=a:=kZr k;have f:=kJJ.1 h.gi p i Z (HH.1 c).1 b
  grind
 refine⟨⟨by simp;omega,λi r b c=>?_,λi r b c=>?_⟩,?_⟩
 .rw[e1 i b]at c;exact q.lo i r b c
 .grind
 grind [jO]
theorem KJ{x:Row}(hx:R[p]? =some x):(R.take p++R.drop (p+1)).take p++[x]++(R.take p++R.drop (p+1)).drop p=R:=by
 have a:=(HH.1 hx).1;have h:(R.take p).length=p:=by simp;omega
 rw[kB ip,kXe ip,List.drop_append_of_le_length ip,kXc ip,kZA,kJk];conv=>rhs;rw[<-GD p R,kQP a,(HH.1 hx).2]
 rfl
def hR:bZ:=⟨0,iY,false⟩
end Go.S
