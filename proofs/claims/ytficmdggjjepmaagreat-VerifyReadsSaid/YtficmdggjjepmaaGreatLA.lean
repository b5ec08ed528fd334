import Derived.Test.YtficmdggjjepmaaGreatKA
set_option linter.all false
set_option maxRecDepth 100000
set_option maxHeartbeats 8000000
namespace Go.S
open Go.Sx Go.Proofs
variable {nm:ByteArray}
theorem oq(a b:Int){h:ab}{k:Value->ab->Prop}(e:k (.int .i64 (fY a b)) h):Ct 363 [.int .i64 a,.int .i64 b] h k:=by
 obtain⟨A,l⟩:=Ar.ex;obtain⟨c,d⟩:∃c,c=fY a b:=⟨_,rfl⟩;rw[<-d]at e;generalize e1:A .az .lss a b=u;generalize f:A .az .gtr a b=j;have g:=e1;have i:=f;rw[aJ A]at g;rw[aO A]at i;unfold fY at d;rw[g,i]at d;refine dH cXl A Tryz.func363 ?_;cbv;rw[e1];cases u with
 |true=>have d:c=-1:=d;subst d;cbv;exact e
 |false=>
  cbv;rw[f];cases j with
  |true=>have d:c=1:=d;subst d;cbv;exact e
  |false=>have d:c=0:=d;subst d;cbv;exact e
theorem Dj:∀a b:List UInt8,Lib.compareBytes a b=0↔a=b
 | [],[]=>by simp[Lib.compareBytes]
 | [],y::b=>by simp[Lib.compareBytes]
 |x::a,[]=>by simp[Lib.compareBytes]
 |x::a,y::b=>by
  unfold Lib.compareBytes;by_cases h:x<y
  .simp[h];intro e;subst e;exact absurd h (iQl x)
  by_cases c:y<x
  .simp[h,c];intro e;subst e;exact absurd c (iQl x)
  have:x=y:=by rw[hJM]at h c;exact hJV.1 (by omega)
  subst this;simp[h,Dj a b]
theorem Hp:∀a b:List UInt8,Lib.compareBytes a b=- Lib.compareBytes b a
 | [],[]=>by simp[Lib.compareBytes]
 | [],y::b=>by simp[Lib.compareBytes]
 |x::a,[]=>by simp[Lib.compareBytes]
 |x::a,y::b=>by
  unfold Lib.compareBytes;by_cases h:x<y
  .have c:¬y<x:=by rw[hJM]at h |-;omega
   simp[h,c]
  by_cases c:y<x
  .simp[h,c]
  simp[h,c,Hp a b]
theorem kT{a b:ByteArray}(h:cU a b=0):a=b:=by
 unfold cU at h;have:=(Dj _ _).1 h;cases a with
 |mk a=>
  cases b with
  |mk b=>congr 1;exact Array.ext' this
theorem rF(a b:ByteArray):cU a b=- cU b a:=by unfold cU;exact Hp _ _
structure TW(T:List bM):Prop where
 jd:T.Pairwise (λa b=>cU a.S.name b.S.name<0)
 ok:∀t∈T,t.S.aW=cA/\t.S.key=0/\SO t.rows/\t.S.name.size<=12
 le:T.length<=8
theorem Is{T:List bM}(h:T.Pairwise (λa b=>cU a.S.name b.S.name<0)){i:Nat}{t:bM}(c:T[i]? =some t):dE (aF T t.S.name)=i/\gH (aF T t.S.name)=true:=by
 have Z:=(dB.1 c).1;have hl:(aF T t.S.name).length=T.length:=by simp[aF]
 have get:∀j x,T[j]? =some x->(aF T t.S.name).getD j 0=cU x.S.name t.S.name:=λj x hx=>by
  rw[xa];unfold aF;rw[qy,hx];rfl
 refine ZY _ i (by omega) (by rw[get i t c];exact sH _) (λj d=>?_) (λj d M=>?_)
 .obtain⟨x,hx⟩:=di T j;rw[get j x hx];have:=hJA.1 h j i (dB.1 hx).1 Z d;rw[(dB.1 hx).2,(dB.1 c).2]at this;exact this
 obtain⟨x,hx⟩:=di T j;rw[get j x hx];have:=hJA.1 h i j Z (dB.1 hx).1 d;rw[(dB.1 hx).2,(dB.1 c).2]at this;rw[rF]at this;omega
theorem FM{T:List bM}(h:∀t∈T,t.S.name≠nm):gH (aF T nm)=false:=by
 cases b:gH (aF T nm)with
 |false=>rfl
 |true=>
  unfold gH at b;obtain⟨d,a⟩:=qH b;obtain⟨t,c⟩:=ay (xs:=T) (i:=dE (aF T nm)) (by simpa[aF]using d);have:(aF T nm).getD (dE (aF T nm)) 0=cU t.S.name nm:=by
   conv=>lhs;unfold aF
   rw[xa,qy];rw[show T.map (λx=>cU x.S.name nm)=aF T nm from rfl,c];rfl
  rw[this]at a;exact absurd (kT a) (h t (kF c))
theorem Kr{T:List bM}(h:T.Pairwise (λa b=>cU a.S.name b.S.name<0)){z:Int}(q:oF T (λt=>decide (t.S.name=nm)) z):
 (z=-1/\gH (aF T nm)=false/\∀t∈T,t.S.name≠nm)\/∃i t,aM z i/\T[i]? =some t/\t.S.name=nm/\dE (aF T nm)=i/\gH (aF T nm)=true:=by
 rcases q.out with⟨rfl,g⟩|⟨i,t,f,c,p,-⟩
 .refine .inl ⟨rfl,FM (λt c=>?_),λt c=>?_⟩
  .exact ra (g t c)
  exact ra (g t c)
 have n:t.S.name=nm:=qH p;obtain⟨d,e⟩:=Is h c;rw[n]at d e;exact .inr ⟨i,t,f,c,n,d,e⟩
structure HO(T:List bM)(x:cW):Prop where
 row:iJ x.row
 op:x.op=1\/x.op=2
 at_:∃t∈T,t.S.name=x.table
structure hJo where
 w:aQc
 lb:Option Addr
 ln:Nat
 lc:Nat
structure SI(d:DB):Prop where
 tw:TW d.al
 jd:d.aj.Pairwise (λa b=>a.s<b.s)
 sa:∀w∈d.aj,0<=w.s/\w.s<8
 log:∀w∈d.aj,(∀x∈w.log,HO d.al x)/\w.log.length<=60
 holds:d.holds.length<=2^17
 waits:d.waits.length<=2^17
end Go.S
