import Derived.Test.YtficmdggjjepmaaGreatEB
set_option linter.all false
set_option maxRecDepth 100000
set_option maxHeartbeats 8000000
namespace Go.S
open Go.Sx Go.Proofs
variable {only:Bool}{nm s:ByteArray}{d:DB}{z:Int}{a:List gY}{i j n o:Nat}{b:Option Addr}{h h':ab}
def cG(W:List eG)(s:Int):List Int:=W.map λx=>IntKind.i64.wrap (x.s-s)
structure Small(d:DB):Prop where
 al:d.al.length<=2^37
 aj:d.aj.length<=2^37
 rows:∀t∈d.al,t.rows.length<=2^37
 holds:d.holds.length<2^18
 waits:d.waits.length<2^18
def cm(d:DB)(s:rM):DB×Int:=eC d s (dE (aF d.al s.name)) (gH (aF d.al s.name))
theorem Ek(a:aM z i)(b:aM z j):i=j:=by have:=a.eq;have:=b.eq;omega
def nA:ByteArray:=⟨#[97]⟩
def DS:List ByteArray:=[⟨#[116,97]⟩,⟨#[116,98]⟩,⟨#[116,99]⟩]
def cA:List gY:=[⟨nA,2,false⟩,⟨⟨#[98]⟩,3,true⟩]
def aB(t:Nat):rM:=⟨(DS[t]?).getD je,cA,0,decide (t=2)⟩
theorem Vy(h:ab):Ct 251 [] h (λv h'=>Le h h'/\∃c,v=.slice (some ⟨c,0,none⟩) 41 41/\Sl 9 uM h' v gC):=by
 refine cp cZE Tryz.func251 λA d=>?_;cbv;intro n a b e1;have g:a n=some (.cells (List.toArray (gC.map Value.string)) 9 (0,0)):=by rw[e1];exact ae
 have r:Sx.Rows uM a (gC.map Value.string) 0 gC:=by refine⟨by decide,λi x hx=>?_⟩;have I:=(dB.1 hx).1;show List.take 1 (List.drop (0+i*1) _)=_;rw[qp,TG,qM (by simpa using I)];rw[dB]at hx;simp[hx.2]
 have s:Sl 9 uM a (.slice (some ⟨n,0,none⟩) 41 41) gC:=Sl.fresh (xs:=gC) g r (by decide) (by decide);have hl:Le h a:=by rw[e1];exact Le.set b
 clear g r e1;cbv;exact⟨hl,n,rfl,s⟩
theorem KJ:Ct 149 [.string s] h (λv h'=>Le h h'/\∃t,v=.bool t/\t=fD s):=by
 refine cp cJZ Tryz.func149 λA o=>?_;have D:A .iQ s=(s.size:Int):=by rw[o.iQ]
 have S:aM (A .iQ s) s.size:=⟨D⟩;have T:∀z i,aM z i->A .byte s z=fR s i:=λz i a=>by
  rw[o.byte];simp only[fR];rw[a.eq];rfl
 generalize e1:A .az .lss (A .iQ s) 1=t1;generalize f:A .az .gtr (A .iQ s) 12=t2;generalize k:A .az .lss (A .byte s 0) 97=t3;generalize l:A .az .gtr (A .byte s 0) 122=t4;have P:t2=false->s.size<=12:=λe=>by
  rw[e,o.az,D]at f;have:=ra f;omega
 have p:xT s= !(t1||t2||t3||t4):=by rw[<-e1,<-f,<-k,<-l,T 0 0 ⟨rfl⟩,D,o.az];rfl
 have Q:t1=false->(0:Int)<=0/\0<(s.size:Int):=λe=>by
  rw[e,o.az,D]at e1;have:=ra e1;omega
 have q:∀(t:Bool) (b:Bool),t=false->xT s=false->t=fD s:=λt b ht hq=>by rw[ht,fD,hq];rfl
 have U:∀(t:Bool),t=true->t=t:=λ_ _=>rfl;cbv;rw[e1];cases t1 with
 |true=>cbv;exact⟨Le.refl _,false,rfl,q _ true rfl p⟩
 |false=>
  have L:=Q rfl;cbv;rw[f];cases t2 with
  |true=>cbv;exact⟨Le.refl _,false,rfl,q _ true rfl p⟩
  |false=>
   cbv;refine⟨L,?_⟩;cbv;rw[k];cases t3 with
   |true=>cbv;exact⟨Le.refl _,false,rfl,q _ true rfl p⟩
   |false=>
    cbv;refine⟨L,?_⟩;cbv;rw[l];cases t4 with
    |true=>cbv;exact⟨Le.refl _,false,rfl,q _ true rfl p⟩
    |false=>
     cbv;have W:xT s=true:=p;have P:=P rfl;clear p e1 f k l Q q U;refine aK.go (G:=Int) (λz=>[(3,.v (.int .i64 z))]) (λ_=>[]) (λn z h'=>∃i:Nat,aM z i/\n=s.size-i/\i<=s.size/\h'=h/\∀j,j<i->Ah (fR s j)=true) s.size 0 (by constructor<;>cbv) ⟨0,⟨rfl⟩,rfl,by omega,rfl,λj g=>(by omega)⟩ ?_
     intro n z h' hI;cbv;obtain⟨i,a,ai,N,rfl,K⟩:=hI;refine aL (λc=>?_) (λc=>?_)
     .rw[a.pL (A:=A) S]at c;have J:=qH c;clear c;cbv;refine⟨a.ix J,?_⟩;cbv;rw[T z i a];generalize O:fR s i=w;generalize e1:A .az .lss w 97=t1;generalize f:A .az .gtr w 122=t2;generalize k:A .az .lss w 48=t3;generalize l:A .az .gtr w 57=t4;generalize r:A .az .neq w 95=t5;have m:Ah w= !((t1||t2)&&(t3||t4)&&t5):=by rw[<-e1,<-f,<-k,<-l,<-r,o.az];rfl
      have d:Ah w=false->fD s=false:=λe=>by
       have:uZ s=false:=by unfold uZ;rw[hKW];exact⟨i,by simp[J],by rw[O,e];simp⟩
       rw[fD,this];simp
      have E:Ah w=true->∀j,j<i+1->Ah (fR s j)=true:=λe j g=>by
       rcases ss j i with h|h
       .exact K j h
       have:j=i:=by omega
       rw[this,O,e]
      cbv;cases t1 with
      |true=>
       cbv;rw[k];cases t3 with
       |true=>
        cbv;rw[r];cases t5 with
        |true=>cbv;exact⟨Le.refl _,false,rfl,(d (by rw[m];rfl)).symm⟩
        |false=>cbv;exact⟨s.size-(i+1),_,by omega,by constructor<;>cbv,i+1,a.succ (A:=A),rfl,by omega,rfl,E (by rw[m];rfl)⟩
       |false=>
        cbv;rw[l];cases t4 with
        |true=>
         cbv;rw[r];cases t5 with
         |true=>cbv;exact⟨Le.refl _,false,rfl,(d (by rw[m];rfl)).symm⟩
         |false=>cbv;exact⟨s.size-(i+1),_,by omega,by constructor<;>cbv,i+1,a.succ (A:=A),rfl,by omega,rfl,E (by rw[m];rfl)⟩
        |false=>cbv;exact⟨s.size-(i+1),_,by omega,by constructor<;>cbv,i+1,a.succ (A:=A),rfl,by omega,rfl,E (by rw[m];rfl)⟩
      |false=>
       cbv;rw[f];cases t2 with
       |true=>
        cbv;rw[k];cases t3 with
        |true=>
         cbv;rw[r];cases t5 with
         |true=>cbv;exact⟨Le.refl _,false,rfl,(d (by rw[m];rfl)).symm⟩
         |false=>cbv;exact⟨s.size-(i+1),_,by omega,by constructor<;>cbv,i+1,a.succ (A:=A),rfl,by omega,rfl,E (by rw[m];rfl)⟩
        |false=>
         cbv;rw[l];cases t4 with
         |true=>
          cbv;rw[r];cases t5 with
          |true=>cbv;exact⟨Le.refl _,false,rfl,(d (by rw[m];rfl)).symm⟩
          |false=>cbv;exact⟨s.size-(i+1),_,by omega,by constructor<;>cbv,i+1,a.succ (A:=A),rfl,by omega,rfl,E (by rw[m];rfl)⟩
         |false=>cbv;exact⟨s.size-(i+1),_,by omega,by constructor<;>cbv,i+1,a.succ (A:=A),rfl,by omega,rfl,E (by rw[m];rfl)⟩
       |false=>cbv;exact⟨s.size-(i+1),_,by omega,by constructor<;>cbv,i+1,a.succ (A:=A),rfl,by omega,rfl,E (by rw[m];rfl)⟩
     rw[a.pL (A:=A) S]at c;have gW:=ra c;cbv;have V:uZ s=true:=by unfold uZ;rw[GD];intro j g;rw[hKM]at g;exact K j (by omega)
     refine(Vy h').mono (λv h2 hR=>?_);obtain⟨R,nb,rfl,ql⟩:=hR;cbv;refine aK.go (G:=Int) (λz=>[(6,.v (.int .i64 z))]) (λ_=>[]) (λn z M=>∃i:Nat,aM z i/\n=41-i/\i<=41/\M=h2/\∀j,j<i->∀y,gC[j]? =some y->y≠s) 41 0 (by constructor<;>cbv) ⟨0,⟨rfl⟩,by omega,by omega,rfl,λj g=>(by omega)⟩ ?_
     intro n2 z2 M pY;cbv;obtain⟨u,B,eE,Y,rfl,I⟩:=pY;refine aL (λc=>?_) (λc=>?_)
     .have X:=B.lt c;clear c;cbv;obtain⟨x,hx⟩:=ay (xs:=gC) (i:=u) X;refine⟨⟨rfl,B.ix X⟩,?_⟩;cbv;refine ql.load hx B.eq (λcs F=>?_);have F:cs=[.string x]:=F;subst F;cbv;rw[ek A];by_cases C:x=s
      .rw[aH C];have Z:oX s=true:=oW.2 (by rw[<-C];exact kF hx);cbv;exact⟨R,false,rfl,by rw[fD,Z];simp⟩
      rw[ag C];cbv;refine⟨41-(u+1),_,by omega,by constructor<;>cbv,u+1,B.succ (A:=A),rfl,by omega,rfl,?_⟩
      intro j g y H;rcases ss j u with h|h
      .exact I j h y H
      have:j=u:=by omega
      subst this;rw[hx]at H;cases H;exact C
     have aj:=B.ge c;have Z:oX s=false:=by
      cases N:oX s with
      |false=>rfl
      |true=>have hm:=oW.1 N;obtain⟨j,g⟩:=yl hm;have pO:j<41:=(dB.1 g).1;exact absurd rfl (I j (by omega) s g)
     cbv;exact⟨R,true,rfl,by rw[fD,W,V,Z];rfl⟩
theorem WS{W:List gY}{c:Nat}(q:Sl 58 bt h (.slice b n c) W){k:Int}:
 Ct 150 [.agg #[.string nm,.slice b n c,.int .i64 k,.bool only],.string s] h (λv h'=>Le h h'/\∃z t l,v=.tuple #[.int .i64 z,.bool t]/\oF W (λx=>decide (x.name=s)) l/\z=max l 0/\t=decide (l>=0)):=by
 have p:=q.len;obtain⟨Y,X⟩:=q.bound;refine cp cJY Tryz.func150 λA E=>?_;cbv;refine aK.go (G:=Int) (λz=>[(6,.v (.int .i64 z))]) (λ_=>[(2,[.string nm,.slice b n c,.int .i64 k,.bool only])]) (λm z h'=>∃i:Nat,aM z i/\m=n-i/\i<=n/\h'=h/\∀j,j<i->∀y,W[j]? =some y->decide (y.name=s)=false) n 0 (by constructor<;>cbv) ⟨0,⟨rfl⟩,by omega,by omega,rfl,λj e=>(by omega)⟩ ?_
 intro m z h' w;cbv;obtain⟨i,a,H,F,rfl,g⟩:=w;refine aL (λd=>?_) (λd=>?_)
 .have I:=a.lt d;clear d;cbv;obtain⟨x,hx⟩:=di W i;refine⟨⟨q.aR,a.ix I⟩,?_⟩;cbv;refine q.ep hx a.eq (o:=0) (m:=1) (by decide) (λcs u=>?_);have u:cs=[.string x.name,.int .i64 x.kind,.bool x.null]:=u;subst u;cbv;rw[ek A];by_cases B:x.name=s
  .rw[aH B];have hR:oF W (λx=>decide (x.name=s)) z:=⟨.inr ⟨i,x,a,hx,by simpa using B,g⟩⟩;have M:=a.eq;have e1:z=max z 0:=by omega
   have r:true=decide (z>=0):=by rw[aH (by omega)]
   cbv;exact⟨Le.refl _,z,true,z,rfl,hR,e1,r⟩
  rw[ag B];cbv;refine⟨n-(i+1),_,by omega,by constructor<;>cbv,i+1,a.succ (A:=A),rfl,by omega,rfl,?_⟩
  intro j e y f;rcases ss j i with C|C
  .exact g j C y f
  have:j=i:=by omega
  subst this;rw[hx]at f;cases f;exact ag B
 have D:=a.ge d;have hR:oF W (λx=>decide (x.name=s)) (-1):=⟨.inl ⟨rfl,λx hx=>by
  obtain⟨j,e⟩:=yl hx;have:=(dB.1 e).1;exact g j (by omega) x e⟩⟩
 cbv;exact⟨Le.refl _,0,false,-1,rfl,hR,rfl,rfl⟩
theorem aXO{c:gY}(b:a[i]? =some c)(r:oF a (λx=>decide (x.name=c.name)) z):
 decide (max z 0≠(i:Int))=(a.take i).any λx=>decide (x.name=c.name):=by
 have d:=Qu b r;rw[<-d,decide_eq_decide];rcases r.out with⟨-,h⟩|⟨k,x,e,hx,p,g⟩
 .have:=h c (kF b);simp at this
 have f:=e.eq;have K:¬i<k:=λh=>by have:=g i h c b;simp at this
 omega
theorem Bh{key:Int}{c:Nat}(q:Sl 58 bt h (.slice b n c) a):
 Ct 62 [.agg #[.string nm,.slice b n c,.int .i64 key,.bool only]] h (λv h'=>Le h h'/\∃z,v=.int .i64 z/\z=dA ⟨nm,a,key,only⟩):=by
 obtain⟨A,F⟩:=Ar.ex;have H:=q.len;obtain⟨iY,fX⟩:=q.bound;have eI:A .not true=false:=by rw[F.not];rfl
 have lY:A .not false=true:=by rw[F.not];rfl
 generalize e1:A .az .lss (A .nat n) 1=u1;generalize C:A .az .gtr (A .nat n) 6=u2;generalize O:A .az .lss key 0=V;generalize D:A .az .geq key (A .nat n)=W;have f1:=e1;have f2:=C;have f3:=O;have f4:=D;rw[aJ A,F.nat]at e1;rw[aO A,F.nat]at C;rw[aJ A]at O;rw[cZ A,F.nat]at D;simp only[kH]at e1 C D;rw[H]at e1 C D;obtain⟨E,hE⟩:∃E,E=dA ⟨nm,a,key,only⟩:=⟨_,rfl⟩;have S:E=if(!fD nm)=true then 12 else if(u1||u2)=true then 4 else if iF a≠0 then iF a else if(V||W)=true then 1 else if((a[key.toNat]?).map (·.null)).getD false=true then 13 else 0:=by rw[hE,<-e1,<-C,<-O,<-D];rfl
 rw[<-hE];refine dH fKy A Tryz.func62 ?_;cbv;refine KJ.mono (λv h1 hR=>?_);obtain⟨L,t,rfl,ht⟩:=hR;rw[<-ht]at S;cases t with
 |false=>cbv;rw[lY];cbv;exact⟨L,12,rfl,S.symm⟩
 |true=>
  cbv;rw[eI];cbv;rw[f1];cases u1 with
  |true=>cbv;exact⟨L,4,rfl,S.symm⟩
  |false=>
   cbv;rw[f2];cases u2 with
   |true=>cbv;exact⟨L,4,rfl,S.symm⟩
   |false=>
    have S:E=if iF a≠0 then iF a else if(V||W)=true then 1 else if((a[key.toNat]?).map (·.null)).getD false=true then 13 else 0:=S
    cbv;refine aK.go (G:=Int) (λz=>[(3,.v (.int .i64 z))]) (λ_=>[(1,[.string nm,.slice b n c,.int .i64 key,.bool only])]) (λm z h'=>∃i:Nat,aM z i/\m=n-i/\i<=n/\Le h h'/\∀j,j<i->∀y,a[j]? =some y->eT a j y=0) n 0 (by constructor<;>cbv) ⟨0,⟨rfl⟩,by omega,by omega,L,λj hj=>(by omega)⟩ ?_
    intro m z h' hI;cbv;obtain⟨i,r,hm,hi,e,M⟩:=hI;refine aL (λK=>?_) (λK=>?_)
    .have aI:=r.lt K;clear K;obtain⟨x,hx⟩:=di a i;have B:b.isSome=true/\0<=z/\z<(n:Int):=⟨q.aR,r.ix aI⟩;have p:∀ {hh:ab} (w:Int),Le h hh->eT a i x=w->w≠0->Le h hh/\∃z,Value.int .i64 w=.int .i64 z/\z=E:=λw l ew hw=>by
      refine⟨l,w,rfl,?_⟩;have:=Ba hx M (by rw[ew];exact hw);rw[S,this,ew,if_pos hw]
     have iE:∀(J:ab),Le h J->eT a i x=0->∃j:Nat,aM (A .aC .add .i64 z 1) j/\n-(i+1)=n-j/\j<=n/\Le h J/\∀U,U<j->∀y,a[U]? =some y->eT a U y=0:=λJ l e0=>
      ⟨i+1,r.succ (A:=A),rfl,by omega,l,λj hj y I=>by
       rcases ss j i with jC|jC
       .exact M j jC y I
       have:j=i:=by omega
       subst this;rw[hx]at I;cases I;exact e0⟩
     obtain⟨f,k,d⟩:=x;cbv;refine⟨B,?_⟩;cbv;refine(q.mono (e.t _)).ep hx r.eq (o:=0) (m:=1) (by decide) (λcs u=>?_);have u:cs=[.string f,.int .i64 k,.bool d]:=u;subst u;cbv;refine(WS (q.mono (e.t _))).mono (λv J hR=>?_);obtain⟨l2,zk,tk,aj,rfl,Es,X,ai⟩:=hR;have Y:=e.trans l2;have N:=aXO hx Es;rw[<-X]at N;generalize P:A .az .neq zk z=w1;have k1:=P;rw[av A,r.eq]at P;rw[P]at N;generalize Q:A .az .lss k 1=w2;generalize R:A .az .gtr k 3=w3;have k2:=Q;have k3:=R;rw[aJ A]at Q;rw[aO A]at R;cbv;refine⟨B,?_⟩;cbv;refine(q.mono (Y.t _)).ep hx r.eq (o:=0) (m:=1) (by decide) (λcs u=>?_);have u:cs=[.string f,.int .i64 k,.bool d]:=u;subst u;cbv;refine KJ.mono (λv h3 hR=>?_);obtain⟨l3,tn,rfl,T⟩:=hR;have s:=Y.trans l3;have key:eT a i ⟨f,k,d⟩=if(!tn||w1)=true then 12 else if(w2||w3)=true then 3 else 0:=by rw[T,N,<-Q,<-R];rfl
     cases tn with
     |false=>have key:eT a i ⟨f,k,d⟩=12:=key;cbv;rw[lY];cbv;exact p 12 s key (by omega)
     |true=>
      cbv;rw[eI];cbv;rw[k1];cases w1 with
      |true=>have key:eT a i ⟨f,k,d⟩=12:=key;cbv;exact p 12 s key (by omega)
      |false=>
       cbv;refine⟨B,?_⟩;cbv;refine(q.mono (s.t _)).ep hx r.eq (o:=1) (m:=1) (by decide) (λcs u=>?_);have u:cs=[.string f,.int .i64 k,.bool d]:=u;subst u;cbv;rw[k2];cases w2 with
       |true=>have key:eT a i ⟨f,k,d⟩=3:=key;cbv;exact p 3 s key (by omega)
       |false=>
        cbv;refine⟨B,?_⟩;cbv;refine(q.mono (s.t _)).ep hx r.eq (o:=1) (m:=1) (by decide) (λcs u=>?_);have u:cs=[.string f,.int .i64 k,.bool d]:=u;subst u;cbv;rw[k3];cases w3 with
        |true=>have key:eT a i ⟨f,k,d⟩=3:=key;cbv;exact p 3 s key (by omega)
        |false=>
         have key:eT a i ⟨f,k,d⟩=0:=key;have g:=iE h3 s key;cbv;refine⟨n-(i+1),_,by omega,by constructor<;>cbv,g⟩
    have gW:=r.ge K;have Wu:iF a=0:=vO (λj hj y I=>M j (by omega) y I);rw[Wu,if_neg (by simp)]at S;cbv;rw[f3];cases V with
    |true=>cbv;exact⟨e,1,rfl,S.symm⟩
    |false=>
     cbv;rw[f4];cases W with
     |true=>cbv;exact⟨e,1,rfl,S.symm⟩
     |false=>
      obtain⟨Z,jY⟩:=IW A f3 f4;obtain⟨x,hx⟩:=di a key.toNat;have B:b.isSome=true/\0<=key/\key<(n:Int):=⟨q.aR,Z.ix jY⟩;rw[hx]at S;obtain⟨f,k,d⟩:=x;cbv;refine⟨B,?_⟩;cbv;refine(q.mono (e.t _)).ep hx Z.eq (o:=2) (m:=1) (by decide) (λcs u=>?_);have u:cs=[.string f,.int .i64 k,.bool d]:=u;subst u;cases d with
      |true=>cbv;exact⟨e,13,rfl,S.symm⟩
      |false=>cbv;exact⟨e,0,rfl,S.symm⟩
def zO:Sh eG where
 n:=3
 R h cs t:=∃b1 n1 c1 b2 n2 c2,cs=[.int .i64 t.s,.slice b1 n1 c1,.slice b2 n2 c2]/\Sl 228 bW h (.slice b1 n1 c1) t.log/\Sl 214 fA h (.slice b2 n2 c2) t.marks
 len:=by rintro h cs x ⟨_,_,_,_,_,_,rfl,-⟩;rfl
 one:=by rintro h cs x ⟨_,_,_,_,_,_,rfl,-⟩;rfl
 tys:=[228,87,214]
 mono:=by rintro h h' cs x hl ⟨b1,n1,c1,b2,n2,c2,rfl,q1,q2⟩;exact⟨b1,n1,c1,b2,n2,c2,rfl,q1.mono (hl.sub),q2.mono (hl.sub)⟩
structure RP(h:ab)(b1:Option Addr)(n1 c1:Nat)(b2:Option Addr)(n2 c2:Nat)(b3:Option Addr)(n3 c3:Nat)(b4:Option Addr)(n4 c4:Nat)(d:DB):Prop where
 al:Sl 198 bu h (.slice b1 n1 c1) d.al
 aj:Sl 206 zO h (.slice b2 n2 c2) d.aj
 holds:Sl 314 bf h (.slice b3 n3 c3) d.holds
 waits:Sl 314 bf h (.slice b4 n4 c4) d.waits
theorem RP.lt{a c e:Option Addr}{f k g m:Nat}(q:RP h b n f a k g c m i e o j d)(l:cf [198,58,88,87,206,228,214,314] h h'):RP h' b n f a k g c m i e o j d:=
 ⟨q.al.mono (l.sub),q.aj.mono (l.sub),q.holds.mono (l.sub),q.waits.mono (l.sub)⟩
theorem RP.mono{a c e:Option Addr}{f k g m:Nat}(q:RP h b n f a k g c m i e o j d)(l:Le h h'):RP h' b n f a k g c m i e o j d:=q.lt (l.t _)
theorem Bb{a b:List UInt8}:∀ {i:Nat},i<=a.length->i<=b.length->(∀j,j<i->a[j]? =b[j]?)->Lib.compareBytes a b=Lib.compareBytes (a.drop i) (b.drop i)
 |0,_,_,_=>rfl
 |i+1,h,c,g=>by
  cases a with
  |nil=>simp at h
  |cons x a=>
   cases b with
   |nil=>simp at c
   |cons y b=>
    have h0:x=y:=by have:=g 0 (by omega);simpa using this
    subst h0;have:Lib.compareBytes (x::a) (x::b)=Lib.compareBytes a b:=by simp[Lib.compareBytes]
    rw[this,hKG,hKG];exact Bb (by simpa using h) (by simpa using c) (λj d=>by have:=g (j+1) (by omega);simpa using this)
theorem SJ{a b:ByteArray}(R:a.size<=2^60):Ct 64 [.string a,.string b] h (λv h'=>Le h h'/\∃t,v=.bool t/\t=decide (cU a b<0)):=by
 obtain⟨A,q⟩:=Ar.ex;have W:aM (A .iQ a) a.size:=⟨by rw[q.iQ]⟩;have V:aM (A .iQ b) b.size:=⟨by rw[q.iQ]⟩;have P:a.data.toList.length=a.size:=by rw[HH];rfl
 have O:b.data.toList.length=b.size:=by rw[HH];rfl
 have S:∀(s:ByteArray) (i:Nat),i<s.size->∃x:UInt8,s.data.toList[i]? =some x/\fR s i=(x.toNat:Int):=λs i Y=>by
  have F:i<s.data.size:=Y;refine⟨s.data[i],by simp[F],?_⟩;simp[fR,hJZ F]
 have T:∀s z i,aM z i->A .byte s z=fR s i:=λs z i c=>by
  rw[q.byte];simp only[fR];rw[c.eq];rfl
 refine dH fKw A Tryz.func64 ?_;cbv;refine aK.go (G:=Int) (λz=>[(5,.v (.int .i64 z))]) (λ_=>[]) (λm z h'=>∃i:Nat,aM z i/\m=a.size-i/\i<=a.size/\i<=b.size/\h'=h/\∀j,j<i->a.data.toList[j]? =b.data.toList[j]?) a.size 0 (by constructor<;>cbv) ⟨0,⟨rfl⟩,by omega,by omega,by omega,rfl,λj hj=>(by omega)⟩ ?_
 intro m z h' U;cbv;obtain⟨i,c,hm,Q,H,rfl,u⟩:=U;have Z:=Bb (a:=a.data.toList) (b:=b.data.toList) (i:=i) (by omega) (by omega) u;have f:A .az .lss z (A .iQ a)=decide (i<a.size):=c.pL W;have g:A .az .lss z (A .iQ b)=decide (i<b.size):=c.pL V;have C:A .az .lss (A .iQ a) (A .iQ b)=decide (a.size<b.size):=W.pL V;by_cases k:i<a.size
 .rw[aH k]at f;rw[f];cbv;by_cases l:i<b.size
  .rw[aH l]at g;rw[g];obtain⟨x,hx,X⟩:=S a i k;obtain⟨y,E,d⟩:=S b i l;have p:a.data.toList.drop i=x::a.data.toList.drop (i+1):=by rw[qM (by omega)];rw[(dB.1 hx).2]
   have M:b.data.toList.drop i=y::b.data.toList.drop (i+1):=by rw[qM (by omega)];rw[(dB.1 E).2]
   rw[p,M]at Z;have w:(0:Int)<=z/\z<(a.size:Int):=c.ix k;have B:(0:Int)<=z/\z<(b.size:Int):=c.ix l;have L:A .az .neq (A .byte a z) (A .byte b z)=decide (x≠y):=by
    rw[T a z i c,T b z i c,av A,X,d,decide_eq_decide];refine not_congr ?_;constructor
    .intro e;exact hJV.1 (iQv.1 e)
    rintro rfl;rfl
   have N:A .az .lss (A .byte a z) (A .byte b z)=decide (x<y):=by rw[T a z i c,T b z i c,aJ A,X,d,decide_eq_decide,hJM];exact Int.ofNat_lt
   cbv;refine⟨w,?_⟩;cbv;refine⟨B,?_⟩;cbv;rw[L];by_cases I:x=y
   .rw[ag (by simp[I])];cbv;refine⟨a.size-(i+1),_,by omega,by constructor<;>cbv,i+1,c.succ (A:=A),rfl,by omega,by omega,rfl,?_⟩
    .intro j hj;rcases ss j i with h|h
     .exact u j h
     have:j=i:=by omega
     rw[this,hx,E,I]
   rw[aH (by simpa using I)];have D:decide (x<y)=decide (cU a b<0):=by
    unfold cU;rw[Z];simp only[Lib.compareBytes];by_cases o:x<y
    .simp[o]
    have:y<x:=by rw[hJM]at o |-;have:x.toNat≠y.toNat:=λe=>I (hJV.1 e);omega
    simp[o,this]
   cbv;refine⟨w,?_⟩;cbv;refine⟨B,?_⟩;cbv;rw[N];exact⟨Le.refl _,_,rfl,D⟩
  rw[ag l]at g;rw[g];have J:b.data.toList.drop i=[]:=Yd (by omega);have D:decide (a.size<b.size)=decide (cU a b<0):=by
   unfold cU;rw[Z,J];have:a.data.toList.drop i≠[]:=by intro e;have:=congrArg List.length e;rw[ec]at this;simp at this;omega
   cases n:a.data.toList.drop i with
   |nil=>exact absurd n this
   |cons x r=>simp only[Lib.compareBytes];rw[ag (by omega)];rfl
  cbv;rw[C];exact⟨Le.refl _,_,rfl,D⟩
 rw[ag k]at f;rw[f];have K:a.data.toList.drop i=[]:=Yd (by omega);have D:decide (a.size<b.size)=decide (cU a b<0):=by
  unfold cU;rw[Z,K];cases n:b.data.toList.drop i with
  |nil=>have:=congrArg List.length n;rw[ec]at this;simp at this;simp only[Lib.compareBytes];rw[ag (by omega)];rfl
  |cons y r=>have:=congrArg List.length n;rw[ec]at this;simp at this;simp only[Lib.compareBytes];rw[aH (by omega)];rfl
 cbv;rw[C];exact⟨Le.refl _,_,rfl,D⟩
theorem EH{e f g k:Option Addr}{w p C r D s:Nat}(q:RP h e n o f w p g C r k D s d):
 Ct 63 [.agg #[.slice e n o,.slice f w p,.slice g C r,.slice k D s],.string nm] h (λv h'=>Le h h'/\∃z,v=.int .i64 z/\oF d.al (λt=>decide (t.S.name=nm)) z):=by
 have E:=q.al.len;have N:=q.al.bound;refine cp fKx Tryz.func63 λA K=>?_;cbv;refine aK.go (G:=Int) (λz=>[(5,.v (.int .i64 z))]) (λ_=>[(2,[.slice e n o,.slice f w p,.slice g C r,.slice k D s])]) (λm z h'=>∃i:Nat,aM z i/\m=n-i/\i<=n/\h'=h/\∀j,j<i->∀y,d.al[j]? =some y->decide (y.S.name=nm)=false) n 0 (by constructor<;>cbv) ⟨0,⟨rfl⟩,by omega,by omega,rfl,λj b=>(by omega)⟩ ?_
 intro m z h' J;cbv;obtain⟨i,a,M,L,rfl,l⟩:=J;refine aL (λc=>?_) (λc=>?_)
 .have I:=a.lt c;clear c;cbv;obtain⟨x,hx⟩:=di d.al i;refine⟨⟨q.al.aR,a.ix I⟩,?_⟩;cbv;refine q.al.Ap hx a.eq (o1:=0) (o2:=0) (m:=1) (by decide) (λcs H=>?_);obtain⟨_,_,_,_,_,_,rfl,-,-⟩:=H;cbv;rw[ek A];by_cases B:x.S.name=nm
  .rw[aH B];have hR:oF d.al (λt=>decide (t.S.name=nm)) z:=⟨.inr ⟨i,x,a,hx,by simpa using B,l⟩⟩;cbv;exact⟨Le.refl _,z,rfl,hR⟩
  rw[ag B];cbv;refine⟨n-(i+1),_,by omega,by constructor<;>cbv,i+1,a.succ (A:=A),rfl,by omega,rfl,?_⟩
  intro j b y u;rcases ss j i with F|F
  .exact l j F y u
  have:j=i:=by omega
  subst this;rw[hx]at u;cases u;exact ag B
 have W:=a.ge c;have hR:oF d.al (λt=>decide (t.S.name=nm)) (-1):=⟨.inl ⟨rfl,λx hx=>by
  obtain⟨j,b⟩:=yl hx;have:=(dB.1 b).1;exact l j (by omega) x b⟩⟩
 cbv;exact⟨Le.refl _,-1,rfl,hR⟩
theorem VE{a:Type}{xs:List a}{p:a->Bool}(q:oF xs p z):decide (z>=0)=xs.any p:=by
 rcases q.out with⟨rfl,h⟩|⟨i,x,c,hx,b,-⟩
 .rw[eq_comm];simpa using h
 have:=c.eq;rw[aH (by omega),eq_comm,hKh];exact⟨x,kF hx,b⟩
def cD(T:List bM)(nm:ByteArray):Nat:=(T.takeWhile λt=>decide (cU t.S.name nm<0)).length
def dY(d:DB)(s:rM):DB×Int:=
 if decide (dA s≠0)=true then(d,dA s)
 else if d.al.any (λt=>decide (t.S.name=s.name))=true then(d,7)
 else if decide ((d.al.length:Int)>=8)=true then(d,4)
 else if decide ((d.aj.length:Int)>0)=true then(d,18)
 else(ba d (d.al.take (cD d.al s.name)++[⟨s,[]⟩]++d.al.drop (cD d.al s.name)),0)
abbrev RK(h:ab)(d':DB)(e:Int)(k:Value->ab->Prop):Prop:=
 ∀h' b1 n1 c1 b2 n2 c2 b3 n3 c3 b4 n4 c4,Le h h'->RP h' b1 n1 c1 b2 n2 c2 b3 n3 c3 b4 n4 c4 d'->k (.tuple #[.agg #[.slice b1 n1 c1,.slice b2 n2 c2,.slice b3 n3 c3,.slice b4 n4 c4],.int .i64 e]) h'
theorem zB{c:Type}{p:c->Bool}:∀ {xs:List c} {i:Nat},(∀j,j<i->∀y,xs[j]? =some y->p y=true)->i<=xs.length->(i<xs.length->∃y,xs[i]? =some y/\p y=false)->(xs.takeWhile p).length=i
 | [],i,_,a,_=>by simp at a;simp[a]
 |x::r,0,_,_,s=>by
  obtain⟨y,b,d⟩:=s (by simp);simp at b;subst b;simp[d]
 |x::r,i+1,g,a,s=>by
  have hx:=g 0 (by omega) x rfl;rw[hKE hx,hJB];rw[zB (xs:=r) (i:=i) (λj e y b=>g (j+1) (by omega) y (by simpa using b)) (by simpa using a) (λh=>by simpa using s (by simpa using h))]
theorem CD{H p r u:Option Addr}{b f w E B F C:Nat}(q:RP h H b f p o w r E B u F C d){W:List gY}{key:Int}{sb:Option Addr}{sn sc:Nat}(qs:Sl 58 bt h (.slice sb sn sc) W)
 (hl:d.al.length<=2^37) (Zo:∀t∈d.al,t.S.name.size<=2^60) {D:DB×Int} (a:dY d ⟨nm,W,key,only⟩=D) {k:Value->ab->Prop} (S:RK h D.1 D.2 k):
 Ct 22 [.agg #[.slice H b f,.slice p o w,.slice r E B,.slice u F C],.agg #[.string nm,.slice sb sn sc,.int .i64 key,.bool only]] h k:=by
 obtain⟨A,hA⟩:=Ar.ex;have ai:=q.al.len;have iD:=q.al.bound;have xV:=q.aj.len;unfold dY at a;generalize g:A .az .geq (A .nat b) 8=u8;generalize Q:A .az .gtr (A .nat o) 0=Z;have V:=g;have ak:=Q;rw[cZ A,hA.nat]at g;rw[aO A,hA.nat]at Q;simp only[kH]at g Q;rw[ai]at g;rw[xV]at Q;rw[g,Q]at a;refine dH gQe A Tryz.func22 ?_;cbv;refine(Bh (nm:=nm) (key:=key) (only:=only) qs).mono (λv h1 hR=>?_);obtain⟨l1,ze,hv,an⟩:=hR;rw[hv];rw[<-an]at a;generalize e0:A .az .neq ze 0=u0;have f0:=e0;rw[av A]at e0;rw[e0]at a;cbv;rw[f0];cases u0 with
 |true=>have a:(d,ze)=D:=a;have c:=S h1 H b f p o w r E B u F C l1 (by rw[<-a];exact q.mono l1);rw[<-a]at c;cbv;exact c
 |false=>
  cbv;refine(EH (q.mono l1)).mono (λv h2 hR=>?_);obtain⟨l2,zf,hv,Es⟩:=hR;rw[hv];have O:=l1.trans l2;have Rt:=VE Es;generalize e7:A .az .geq zf 0=u7;have f7:=e7;rw[cZ A]at e7;rw[e7]at Rt;have a:(if d.al.any (λt=>decide (t.S.name=nm))=true then(d,7)else if u8=true then(d,4)else if Z=true then(d,18)
   else(ba d (d.al.take (cD d.al nm)++[⟨⟨nm,W,key,only⟩,[]⟩]++d.al.drop (cD d.al nm)),0))=D:=a
  rw[<-Rt]at a;cbv;rw[f7];cases u7 with
  |true=>have a:(d,7)=D:=a;have c:=S h2 H b f p o w r E B u F C O (by rw[<-a];exact q.mono O);rw[<-a]at c;cbv;exact c
  |false=>
   cbv;rw[V];cases u8 with
   |true=>have a:(d,4)=D:=a;have c:=S h2 H b f p o w r E B u F C O (by rw[<-a];exact q.mono O);rw[<-a]at c;cbv;exact c
   |false=>
    cbv;rw[ak];cases Z with
    |true=>have a:(d,18)=D:=a;have c:=S h2 H b f p o w r E B u F C O (by rw[<-a];exact q.mono O);rw[<-a]at c;cbv;exact c
    |false=>
     have a:(ba d (d.al.take (cD d.al nm)++[⟨⟨nm,W,key,only⟩,[]⟩]++d.al.drop (cD d.al nm)),0)=D:=a;cbv;refine aK.go (G:=Int) (λz=>[(7,.v (.int .i64 z))]) (λ_=>[(2,[.slice H b f,.slice p o w,.slice r E B,.slice u F C]),(3,[.string nm,.slice sb sn sc,.int .i64 key,.bool only]),(4,[.slice none 0 0,.slice none 0 0,.slice none 0 0,.slice none 0 0])])
      (λm z h'=>∃i:Nat,aM z i/\m=b-i/\i<=b/\Le h h'/\∀j,j<i->∀y,d.al[j]? =some y->decide (cU y.S.name nm<0)=true) b 0 ⟨?_,?_,?_⟩ ⟨0,⟨rfl⟩,by omega,by omega,O,λj hj=>(by omega)⟩ ?_
     .cbv
     .cbv
     .cbv
     intro m z h' hI;cbv;obtain⟨i,e,hm,hi,l,bg⟩:=hI;have g1:A .az .lss z (A .nat b)=decide (i<b):=e.pL (aM.nat b);rw[g1];rcases ss i b with aI|gW
     .rw[aH aI];have Og:=e.ix aI;obtain⟨x,hx⟩:=di d.al i;have qh:=q.mono l;cbv;refine⟨⟨qh.al.aR,Og⟩,?_⟩;cbv;refine qh.al.Ap hx e.eq (o1:=0) (o2:=0) (m:=1) (by decide) (λcs au=>?_);obtain⟨_,_,_,_,_,_,rfl,-,-⟩:=au;cbv;refine(SJ (Zo x (kF hx))).mono (λv h3 hR=>?_);obtain⟨l3,t,hv,ht⟩:=hR;rw[hv];have yU:=l.trans l3;cbv;cases t with
      |true=>
       cbv;refine⟨b-(i+1),_,by omega,by constructor<;>cbv,i+1,e.succ (A:=A),rfl,by omega,yU,?_⟩
       intro j hj y hy;rcases ss j i with jC|jC
       .exact bg j jC y hy
       have:j=i:=by omega
       subst this;rw[hx]at hy;cases hy;exact ht.symm
      |false=>
       have kj:cD d.al nm=i:=zB bg (by omega) (λ_=>⟨x,hx,ht.symm⟩);have M:=q.mono yU;have P:A .mW z 0=i:=cQ (A:=A) e;obtain⟨Jt,Js⟩:=iD;have eW:0<=z/\z<=(f:Int):=by have:=e.eq;omega
       have lG:0<=z/\z<=(b:Int):=by have:=e.eq;omega
       have U:i<=b:=hi;cbv;intro n6 Y g6 e6;have l6:Le h3 Y:=by rw[e6];exact Le.set g6
       have q6:=M.mono l6;cbv;refine⟨eW,?_⟩;cbv;have lR:aT 198 bu h3 Y (.slice (some ⟨n6,0,none⟩) 0 0) ([]:List bM):=aT.nil;refine lR.append (q6.al.qu (A:=A) (s:=bu) (z:=A .nat f) U P P) (by decide) rfl (by decide) (by rw[P];omega) l6 (λm7 b7 c7 h7 RV l7 t7 k7 lH=>?_);cbv;intro n8 h8 g8 g;have L:Le h7 h8:=by rw[g];exact Le.set g8
       have V:=(congrFun g n8).trans ae;have r8:bu.R h8 [.string nm,.slice sb sn sc,.int .i64 key,.bool only,.slice none 0 0] ⟨⟨nm,W,key,only⟩,[]⟩:=⟨_,_,_,_,_,_,rfl,qs.mono ((yU.trans (l7.trans L)).t _),Sl.nil⟩;have v8:=bC (s:=bu) V r8;cbv;refine(lH.mono (L.t _)).append v8 (by decide) rfl (by decide) (by omega) (l7.trans L) (λm9 b9 c9 h9 aw l9 t9 k9 R=>?_);have q9:=M.mono l9;have ud:=bZ (A:=A) e (n:=b);cbv;refine⟨lG,?_⟩;cbv;refine R.append (q9.al.gT (A:=A) (s:=bu) e U ud (c':=f-i) rfl) (by decide) rfl (by decide) (by rw[ud];omega) l9 (λX K I lI aj pM aP NY J=>?_);have T:=J.sl;rw[hJG]at T;rw[kj]at a;have N:=M.mono pM;have hL:=yU.trans pM;have c:=S lI K X I p o w r E B u F C hL (by rw[<-a];exact⟨T,N.aj,N.holds,N.waits⟩);rw[<-a]at c;cbv;exact c
     rw[ag (by omega)];have kj:cD d.al nm=i:=zB bg (by omega) (λh=>by omega);have M:=q.mono l;have P:A .mW z 0=i:=cQ (A:=A) e;obtain⟨Jt,Js⟩:=iD;have eW:0<=z/\z<=(f:Int):=by have:=e.eq;omega
     have lG:0<=z/\z<=(b:Int):=by have:=e.eq;omega
     have U:i<=b:=hi;cbv;intro n6 Y g6 e6;have l6:Le h' Y:=by rw[e6];exact Le.set g6
     have q6:=M.mono l6;cbv;refine⟨eW,?_⟩;cbv;have lR:aT 198 bu h' Y (.slice (some ⟨n6,0,none⟩) 0 0) ([]:List bM):=aT.nil;refine lR.append (q6.al.qu (A:=A) (s:=bu) (z:=A .nat f) U P P) (by decide) rfl (by decide) (by rw[P];omega) l6 (λm7 b7 c7 h7 RV l7 t7 k7 lH=>?_);cbv;intro n8 h8 g8 g;have L:Le h7 h8:=by rw[g];exact Le.set g8
     have V:=(congrFun g n8).trans ae;have r8:bu.R h8 [.string nm,.slice sb sn sc,.int .i64 key,.bool only,.slice none 0 0] ⟨⟨nm,W,key,only⟩,[]⟩:=⟨_,_,_,_,_,_,rfl,qs.mono ((l.trans (l7.trans L)).t _),Sl.nil⟩;have v8:=bC (s:=bu) V r8;cbv;refine(lH.mono (L.t _)).append v8 (by decide) rfl (by decide) (by omega) (l7.trans L) (λm9 b9 c9 h9 aw l9 t9 k9 R=>?_);have q9:=M.mono l9;have ud:=bZ (A:=A) e (n:=b);cbv;refine⟨lG,?_⟩;cbv;refine R.append (q9.al.gT (A:=A) (s:=bu) e U ud (c':=f-i) rfl) (by decide) rfl (by decide) (by rw[ud];omega) l9 (λX K I lI aj pM aP NY J=>?_);have T:=J.sl;rw[hJG]at T;rw[kj]at a;have N:=M.mono pM;have hL:=l.trans pM;have c:=S lI K X I p o w r E B u F C hL (by rw[<-a];exact⟨T,N.aj,N.holds,N.waits⟩);rw[<-a]at c;cbv;exact c
def ij(i:Nat):bM:=⟨aB i,[]⟩
structure aQc where
 b1:Option Addr
 n1:Nat
 c1:Nat
 b2:Option Addr
 n2:Nat
 c2:Nat
 b3:Option Addr
 n3:Nat
 c3:Nat
 b4:Option Addr
 n4:Nat
 c4:Nat
def fy:ByteArray:=⟨#[]⟩
end Go.S
