import Derived.Test.YthnbpiejemlbeaaGreatBP
set_option linter.all false
set_option maxRecDepth 100000
set_option maxHeartbeats 8000000
namespace Go.S
open Go.Sx Go.Proofs
variable {d:DB}{G:Lg}{r:List Bs}{p s:Nat}{k:Value->ad->Prop}{h:ad}{L:fA}
structure ZW(T:List ca)(c:cV)(T':List ca):Prop where
 out:∃i t t',T[i]? =some t/\t.S.name=c.table/\(∀j,j<i->∀y,T[j]? =some y->decide (y.S.name=c.table)=false)/\eKb t c t'/\T'=T.set i t'
structure RunT(cs:List cV)(tt:Nat->List ca):Prop where
 step:∀i c,cs[i]? =some c->ZW (tt i) c (tt (i+1))
 iP:∀c∈cs,aQu c
 cKm:∀c∈cs,yh c
 n:0<cs.length/\cs.length<=255
set_option maxHeartbeats 16000000
inductive uK:DB->fA->Bs->DB->fA->Prop
 |bZL {d d':DB} {L:fA} {l:Bs} (h1:(aO 1 (some l)).1=1) (h2:ou d (aO 1 (some l)).2=(d',false,some [])):uK d L l d' L
 |drop {d d':DB} {L:fA} {l:Bs} (h1:(aO 1 (some l)).1=2) (h2:kE d (aO 1 (some l)).2=(d',false,some [])):uK d L l d' L
 |tx {d:DB} {L:fA} {cs:List cV} {tt:Nat->List ca} (h1:tt 0=d.ao) (h2:RunT cs tt):uK d L (iK ⟨L.next,cs⟩ (eX L cs)) (gR d (tt cs.length)) (eX L cs)
 |lE {d:DB} {L:fA} (h1:L.oR.length≠0):uK d L (gD ((L.dJ.length+1:Nat):Int) (ef (kI L.oR L.dJ))) d (dq L)
def lz:fA:=⟨0,[],[],[]⟩
structure yI(eO:List Bs)(sd:Nat->DB)(sl:Nat->fA):Prop where
 d0:sd 0=dz
 l0:sl 0=lz
 step:∀i l,eO[i]? =some l->uK (sd i) (sl i) l (sd (i+1)) (sl (i+1))
 Fh:∀i,i<=eO.length->yg (sl i)
 small:∀i,i<=eO.length->Small (sd i)
theorem Rz(q:tD h s p G d L)
 (r:∀h' b n e a j f c l i,Le h h'->vd h' b n e a j f c l i L->k (.agg #[.int .i64 L.next,.slice b n e,.slice a j f,.slice c l i]) h'):Ct 15 [.zP s] h k:=by
 obtain⟨e1,y,N,R,z,O,S,B,P,I,D⟩:=q.out;obtain⟨g,x,F,Z,qk,J⟩:=I.out;obtain⟨b,n,e,a,j,f,c,l,i,K,U,M,m,Y⟩:=J.out;obtain⟨X,W,V,yw⟩:=L;refine cg fXg Tryz.func15 λA T=>?_;cbv;rw[av A];refine yJ (cm F.out rfl) m rfl ?_;cbv;rw[av A];refine cr m ?_;cbv;refine bQj D (λo E H Q v u t w C=>?_);have:=r o E y H Q z v u B t w C;cbv;exact this
theorem jZc(q:tD h s p G d L)(a:gKP h d k):Ct 13 [.zP s] h k:=by obtain⟨e1,m,b,f,i,c,g,j,e,w,l⟩:=q.out;exact eJF w a
theorem RM(q:tD h s p G d L){nm:ByteArray}{b:List jF}{key:Int}{only:Bool}{a:Option Addr}{n c:Nat}(o:Sl 202 bH h (.slice a n c) b)
 (Y:n<=2^16) (e:nm.size<=2^40) (f:∀x∈b,x.name.size<=2^40) (t:Small d) (j:G.s<=2^29) (i:G.n<=2^29) (l:G.D.ws.length<=2^28) 
 (g:∀h',dX IK h h'->tD h' s p (gH G d ⟨nm,b,key,only⟩).2.1 (gH G d ⟨nm,b,key,only⟩).2.2 L->k (.int .i64 (gH G d ⟨nm,b,key,only⟩).1) h'):
 Ct 36 [.zP s,.agg #[.string nm,.slice a n c,.int .i64 key,.bool only]] h k:=by
 obtain⟨e1,B,u,z,C,v,A,D,y,r,m⟩:=q.out;exact bQv r o Y e f t j i l (λh' x w=>g h' x ⟨_,_,_,_,_,_,_,_,_,w,m.ls (x.t (by decide))⟩)
theorem eKa(q:tD h s p G d L)(nm:ByteArray)(c:nm.size<=2^40)(b:G.s<=2^29)(n:G.n<=2^29)(e:G.D.ws.length<=2^28)
 (a:∀h',dX IK h h'->tD h' s p (nG G d nm).2.1 (nG G d nm).2.2 L->k (.int .i64 (nG G d nm).1) h'):
 Ct 67 [.zP s,.string nm] h k:=by
 obtain⟨e1,r,g,m,t,i,o,u,j,f,l⟩:=q.out;exact eJX f nm c b n e (λh' x w=>a h' x ⟨_,_,_,_,_,_,_,_,_,w,l.ls (x.t (by decide))⟩)
theorem zA{g:Lg}{P:Nat}(I:yf g P r)(l:Bs)(hl:l.length<=65536)(e:0<P):(∃a,aY g l=(0,a)/\yf a P (r++[l])/\a.s=g.s+8+l.length/\64+a.s<=P*64)\/aY g l=(14,g):=by
 by_cases h:64+g.s+8+l.length<=P*64
 .obtain⟨a,b,c,d⟩:=CD I l hl h;exact .inl ⟨a,b,c,d,by omega⟩
 refine .inr ?_;have p:=I.iP.len;unfold aY;rw[if_neg (by omega),if_pos (by rw[p];omega)]
theorem yI.nil:yI [] (λ_=>dz) (λ_=>lz)where
 d0:=rfl
 l0:=rfl
 step:=λi l h=>by cases h
 Fh:=λ_ _=>⟨⟨jKt _,by decide⟩,λt ht=>(by cases ht),nr _,nr _,nr _⟩
 small:=λ_ _=>gKT.small
theorem yI.snoc{s:Nat->DB}{sl:Nat->fA}(R:yI r s sl){l:Bs}(S:uK (s r.length) (sl r.length) l d L)(B:yg L)(m:Small d):
 ∃Z c,yI (r++[l]) Z c/\Z (r++[l]).length=d/\c (r++[l]).length=L:=by
 have n:(r++[l]).length=r.length+1:=by rw[cy,qA]
 refine⟨λi=>if i<=r.length then s i else d,λi=>if i<=r.length then sl i else L,⟨?_,?_,λi x hx=>?_,λi a=>?_,λi a=>?_⟩,?_,?_⟩
 .show(if 0<=r.length then s 0 else d)=dz;rw[if_pos (nr _)];exact R.d0
 .show(if 0<=r.length then sl 0 else L)=lz;rw[if_pos (nr _)];exact R.l0
 .have a:i<r.length+1:=by have:=(ff.1 hx).1;omega
  by_cases U:i<r.length
  .rw[kQa U]at hx;show uK (if i<=r.length then s i else d) (if i<=r.length then sl i else L) x (if i+1<=r.length then s (i+1)else d) (if i+1<=r.length then sl (i+1)else L);rw[if_pos (by omega),if_pos (by omega),if_pos (by omega),if_pos (by omega)];exact R.step i x hx
  have v:i=r.length:=by omega
  subst v;rw[kQe (kB _),GD]at hx;have hx:l=x:=by simpa using hx
  subst hx;show uK (if r.length<=r.length then s r.length else d) (if r.length<=r.length then sl r.length else L) l (if r.length+1<=r.length then s (r.length+1)else d) (if r.length+1<=r.length then sl (r.length+1)else L);rw[if_pos (kB _),if_pos (kB _),if_neg (by omega),if_neg (by omega)];exact S
 .show yg (if i<=r.length then sl i else L);split
  .rename_i h;exact R.Fh i h
  exact B
 .show Small (if i<=r.length then s i else d);split
  .rename_i h;exact R.small i h
  exact m
 .show(if(r++[l]).length<=r.length then s (r++[l]).length else d)=d;rw[if_neg (by omega)]
 show(if(r++[l]).length<=r.length then sl (r++[l]).length else L)=L;rw[if_neg (by omega)]
end Go.S
