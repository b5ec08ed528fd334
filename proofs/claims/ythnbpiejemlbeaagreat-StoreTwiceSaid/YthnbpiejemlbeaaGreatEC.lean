import Derived.Test.YthnbpiejemlbeaaGreatEB
set_option linter.all false
set_option maxRecDepth 100000
set_option maxHeartbeats 8000000
namespace Go.S
open Go.Sx Go.Proofs
variable {only:Bool}{nm s:ByteArray}{d:DB}{D:DB×Int}{key z:Int}{B:List jF}{c i j n o sc:Nat}{b sb:Option Addr}{k:Value->ad->Prop}{h h':ad}
def bW(W:List eY)(s:Int):List Int:=W.map λx=>IntKind.i64.wrap (x.s-s)
def GJ(d:DB)(hd:bU):Bool:=iQ (bW d.ai hd.s)&&iQ (aS d.ao hd.table)
structure Small(d:DB):Prop where
 ao:d.ao.length<=2^37
 ai:d.ai.length<=2^37
 rows:∀t∈d.ao,t.rows.length<=2^37
 holds:d.holds.length<2^18
 waits:d.waits.length<2^18
def cf(d:DB)(s:tE):DB×Int:=gq d s (dC (aS d.ao s.name)) (iQ (aS d.ao s.name))
def iY(d:DB)(s:Int):DB×Int:=jl d s (dC (bW d.ai s)) (iQ (bW d.ai s))
abbrev Vh(h:ad)(d':DB)(e:Int)(k:Value->ad->Prop):Prop:=
 ∀h' b1 n1 c1 b2 n2 c2 b3 n3 c3 b4 n4 c4,Le h h'->fE h' (.agg #[.slice b1 n1 c1,.slice b2 n2 c2,.slice b3 n3 c3,.slice b4 n4 c4]) d'->k (.tuple #[.agg #[.slice b1 n1 c1,.slice b2 n2 c2,.slice b3 n3 c3,.slice b4 n4 c4],.int .i64 e]) h'
theorem Jp(a:aZ z i)(b:aZ z j):i=j:=by have:=a.eq;have:=b.eq;omega
theorem Cx{v:Value}(q:fE h v d){b:List jF}{s:Option Addr}(x:Sl 202 bH h (.slice s n c) b)(m:Small d)(o:cf d ⟨nm,b,key,only⟩=D)
  (t:Vh h D.1 D.2 k):Ct 91 [v,.agg #[.string nm,.slice s n c,.int .i64 key,.bool only]] h k:=
 (Zl q x m.ao m.ai).mono (λv h' hR=>by
  obtain⟨N,e,z,i,is,u,l,hd,a,w,p⟩:=hR;obtain⟨g,j⟩:=p.at_;have r:=Jp w g;have J:gq d ⟨nm,b,key,only⟩ i is=D:=by rw[<-o,r,j];rfl
  rw[J]at hd a;obtain⟨y,I,E,A,K,F,B,L,G,C,M,H,f⟩:=hd.form;rw[u,f,a];exact t h' _ _ _ _ _ _ _ _ _ _ _ _ l (by rw[<-f];exact hd))
theorem ZI{v:Value}(q:fE h v d)(s:Int)(r:Small d)(g:iY d s=D)(n:Vh h D.1 D.2 k):Ct 12 [v,.int .i64 s] h k:=
 (aKt q s r.ai).mono (λv h' hR=>by
  obtain⟨I,e,z,i,is,o,l,hd,a,p,j⟩:=hR;obtain⟨b,c⟩:=j.at_;have m:=Jp p b;have J:jl d s i is=D:=by rw[<-g,m,c];rfl
  rw[J]at hd a;obtain⟨t,E,y,u,F,A,w,G,B,x,H,C,f⟩:=hd.form;rw[o,f,a];exact n h' _ _ _ _ _ _ _ _ _ _ _ _ l (by rw[<-f];exact hd))
def fQS:DB:=⟨[],[],[],[]⟩
def nA:ByteArray:=⟨#[97]⟩
theorem fJV(h:ad):fE h (.agg #[.slice none 0 0,.slice none 0 0,.slice none 0 0,.slice none 0 0]) fQS:=
 ⟨_,_,_,_,_,_,_,_,_,_,_,_,[],rfl,Sl.nil,Sl.nil,Sl.nil,Sl.nil,rfl⟩
theorem zX(a:Int)(n:Nat)(o:0<n)(U:n<=2^40)(h:ad)(l:∀z i,aZ z i->i=(a % (n:Int)).toNat->i<n->k (.int .i64 z) h):Ct 148 [.int .i64 a,.int .i64 (n:Int)] h k:=by
 obtain⟨A,c⟩:=Ar.ex;obtain⟨m,b⟩:∃m:Int,m=(n:Int):=⟨_,rfl⟩;rw[<-b];have D:m≠0:=by omega
 have I:A .aT .rem .i64 a m=a.tmod m:=by rw[c.aT];rfl
 have v:a.tmod m<m:=by have:=kQS a (show 0<m by omega);omega
 have Z:-m<a.tmod m:=by have:=kQR a (show 0<m by omega);omega
 have w:a % m=if a.tmod m<0 then a.tmod m+m else a.tmod m:=by
  rw[kQQ];have g:=jKh a D;have j:=jKG a (show 0<m by omega);by_cases d:0<=a\/m ∣ a
  .rw[if_pos d];rw[if_neg (by omega)];omega
  rw[if_neg d];have:(m.natAbs:Int)=m:=by omega
  rw[this,if_pos (by omega)];omega
 generalize q:a.tmod m=t at *;generalize e:A .aN .lss t 0=u;have f:=e;rw[aR A]at e;have key:∀z:Int,z=a % m->k (.int .i64 z) h:=λz s=>by
  have g:=jKh a D;have j:=jKG a (show 0<m by omega);refine l z (a % (n:Int)).toNat ⟨?_⟩ rfl ?_
  .rw[<-b];omega
  rw[<-b];omega
 have W:t<0->A .aT .add .i64 t m=t+m:=λh=>by
  rw[c.aT];simp only[aT];rw[IntWalk.i64_in _ (by omega)]
 refine fz aKQ A Tryz.func148 ?_;cbv;refine⟨D,?_⟩;cbv;rw[I];rw[f];cases u with
 |true=>have p:=lA e;have r:=key (t+m) (by rw[w,if_pos p]);cbv;rw[W p];exact r
 |false=>have p:=kz e;have r:=key t (by rw[w,if_neg p]);cbv;exact r
def IT:List ByteArray:=[⟨#[116,97]⟩,⟨#[116,98]⟩,⟨#[116,99]⟩]
def bG:List jF:=[⟨nA,2,false⟩,⟨⟨#[98]⟩,3,true⟩]
def aP(t:Nat):tE:=⟨(IT[t]?).getD jg,bG,0,decide (t=2)⟩
theorem Ai{t:Nat}(f:aZ z t)(l:t<3)(h:ad)
 (F:∀h' b n c nm o,Le h h'->nm=(aP t).name->o=(aP t).only->Sl 202 bH h' (.slice b n c) bG->k (.agg #[.string nm,.slice b n c,.int .i64 0,.bool o]) h'):Ct 92 [.int .i64 z] h k:=by
 obtain⟨A,H⟩:=Ar.ex;obtain⟨x,hx⟩:=aJ (xs:=IT) (i:=t) l;have T:x=(aP t).name:=by unfold aP;rw[hx];rfl
 have E:A .aN .eql z 2=decide (t=2):=by rw[au A,decide_eq_decide];have:=f.eq;omega
 have v:(0:Int)<=z/\z<((3:Nat):Int):=f.ix l;refine fz hJw A Tryz.func92 ?_;cbv;intro p d B e1;have G:Le h d:=by rw[e1];exact Le.set B
 have C:=(congrFun e1 p).trans ae;have s1:Sl 202 bH d (.slice (zsA p) 2 2) bG:=by
  refine Sl.fresh (xs:=bG) C ⟨by simp[bG,bH],λj y a=>?_⟩ (by simp[bG]) (by simp[bG])
  match j,a with
  |0,a=>simp[bG]at a;subst a;rfl
  |1,a=>simp[bG]at a;subst a;rfl
  |j+2,a=>simp[bG]at a
 cbv;intro q e U g;have m:Le d e:=by rw[g];exact Le.set U
 have D:=(congrFun g q).trans ae;have s2:Sl 9 oY e (.slice (zsA q) 3 3) IT:=ke (s:=oY) rfl D (x:=⟨#[116,97]⟩) (y:=⟨#[116,98]⟩) (w:=⟨#[116,99]⟩) rfl rfl rfl;cbv;refine⟨⟨rfl,v⟩,?_⟩;cbv;refine s2.load hx f.eq (λcs r=>?_);have r:cs=[.string x]:=r;subst r;have u:=F e _ _ _ x (decide (t=2)) (G.trans m) T rfl (s1.mono (m.t _));cbv;rw[E];exact u
theorem aZA(h:ad):Ct 348 [] h (λv h'=>Le h h'/\∃c,v=.slice (zsA c) 41 41/\Sl 9 oY h' v jm):=by
 refine cg dKH Tryz.func348 λA d=>?_;cbv;intro n a b e1;have g:a n=zcL 9 (jm.map Value.string):=by rw[e1];exact ae
 have r:Sx.Rows oY a (jm.map Value.string) 0 jm:=by refine⟨by decide,λi x hx=>?_⟩;have U:=(ff.1 hx).1;show List.take 1 (List.drop (0+i*1) _)=_;rw[tT,jKp,Rs (by simpa using U)];rw[ff]at hx;simp[hx.2]
 have s:Sl 9 oY a (.slice (zsA n) 41 41) jm:=Sl.fresh (xs:=jm) g r (by decide) (by decide);have hl:Le h a:=by rw[e1];exact Le.set b
 clear g r e1;cbv;exact⟨hl,n,rfl,s⟩
theorem Ji:Ct 281 [.string s] h (λv h'=>Le h h'/\∃t,v=.bool t/\t=gS s):=by
 refine cg eQO Tryz.func281 λA o=>?_;have u:A .lC s=(s.size:Int):=by rw[o.lC]
 have I:aZ (A .lC s) s.size:=⟨u⟩;have W:∀z i,aZ z i->A .byte s z=iX s i:=λz i a=>by
  rw[o.byte];simp only[iX];rw[a.eq];rfl
 generalize e1:A .aN .lss (A .lC s) 1=t1;generalize f:A .aN .gtr (A .lC s) 12=t2;generalize k:A .aN .lss (A .byte s 0) 97=t3;generalize m:A .aN .gtr (A .byte s 0) 122=t4;have S:t2=false->s.size<=12:=λe=>by
  rw[e,o.aN,u]at f;have:=kz f;omega
 have p:CO s= !(t1||t2||t3||t4):=by rw[<-e1,<-f,<-k,<-m,W 0 0 ⟨rfl⟩,u,o.aN];rfl
 have J:t1=false->(0:Int)<=0/\0<(s.size:Int):=λe=>by
  rw[e,o.aN,u]at e1;have:=kz e1;omega
 have E:∀(t:Bool) (b:Bool),t=false->CO s=false->t=gS s:=λt b ht hq=>by rw[ht,gS,hq];rfl
 have T:∀(t:Bool),t=true->t=t:=λ_ _=>rfl;cbv;rw[e1];cases t1 with
 |true=>cbv;exact⟨Le.refl _,false,rfl,E _ true rfl p⟩
 |false=>
  have K:=J rfl;cbv;rw[f];cases t2 with
  |true=>cbv;exact⟨Le.refl _,false,rfl,E _ true rfl p⟩
  |false=>
   cbv;refine⟨K,?_⟩;cbv;rw[k];cases t3 with
   |true=>cbv;exact⟨Le.refl _,false,rfl,E _ true rfl p⟩
   |false=>
    cbv;refine⟨K,?_⟩;cbv;rw[m];cases t4 with
    |true=>cbv;exact⟨Le.refl _,false,rfl,E _ true rfl p⟩
    |false=>
     cbv;have D:CO s=true:=p;have S:=S rfl;clear p e1 f k m J E T;refine aX.go (G:=Int) (λz=>[(3,.v (.int .i64 z))]) (λ_=>[]) (λn z h'=>∃i:Nat,aZ z i/\n=s.size-i/\i<=s.size/\h'=h/\∀j,j<i->EY (iX s j)=true) s.size 0 (by constructor<;>cbv) ⟨0,⟨rfl⟩,rfl,by omega,rfl,λj g=>(by omega)⟩ ?_
     intro n z h' hI;cbv;obtain⟨i,a,ab,O,rfl,M⟩:=hI;refine ba (λc=>?_) (λc=>?_)
     .rw[a.yY (A:=A) I]at c;have U:=lA c;clear c;cbv;refine⟨a.ix U,?_⟩;cbv;rw[W z i a];generalize Q:iX s i=w;generalize e1:A .aN .lss w 97=t1;generalize f:A .aN .gtr w 122=t2;generalize k:A .aN .lss w 48=t3;generalize m:A .aN .gtr w 57=t4;generalize q:A .aN .neq w 95=t5;have l:EY w= !((t1||t2)&&(t3||t4)&&t5):=by rw[<-e1,<-f,<-k,<-m,<-q,o.aN];rfl
      have d:EY w=false->gS s=false:=λe=>by
       have:Au s=false:=by unfold Au;rw[kXh];exact⟨i,by simp[U],by rw[Q,e];simp⟩
       rw[gS,this];simp
      have P:EY w=true->∀j,j<i+1->EY (iX s j)=true:=λe j g=>by
       rcases wM j i with h|h
       .exact M j h
       have:j=i:=by omega
       rw[this,Q,e]
      cbv;cases t1 with
      |true=>
       cbv;rw[k];cases t3 with
       |true=>
        cbv;rw[q];cases t5 with
        |true=>cbv;exact⟨Le.refl _,false,rfl,(d (by rw[l];rfl)).symm⟩
        |false=>cbv;exact⟨s.size-(i+1),_,by omega,by constructor<;>cbv,i+1,a.succ (A:=A),rfl,by omega,rfl,P (by rw[l];rfl)⟩
       |false=>
        cbv;rw[m];cases t4 with
        |true=>
         cbv;rw[q];cases t5 with
         |true=>cbv;exact⟨Le.refl _,false,rfl,(d (by rw[l];rfl)).symm⟩
         |false=>cbv;exact⟨s.size-(i+1),_,by omega,by constructor<;>cbv,i+1,a.succ (A:=A),rfl,by omega,rfl,P (by rw[l];rfl)⟩
        |false=>cbv;exact⟨s.size-(i+1),_,by omega,by constructor<;>cbv,i+1,a.succ (A:=A),rfl,by omega,rfl,P (by rw[l];rfl)⟩
      |false=>
       cbv;rw[f];cases t2 with
       |true=>
        cbv;rw[k];cases t3 with
        |true=>
         cbv;rw[q];cases t5 with
         |true=>cbv;exact⟨Le.refl _,false,rfl,(d (by rw[l];rfl)).symm⟩
         |false=>cbv;exact⟨s.size-(i+1),_,by omega,by constructor<;>cbv,i+1,a.succ (A:=A),rfl,by omega,rfl,P (by rw[l];rfl)⟩
        |false=>
         cbv;rw[m];cases t4 with
         |true=>
          cbv;rw[q];cases t5 with
          |true=>cbv;exact⟨Le.refl _,false,rfl,(d (by rw[l];rfl)).symm⟩
          |false=>cbv;exact⟨s.size-(i+1),_,by omega,by constructor<;>cbv,i+1,a.succ (A:=A),rfl,by omega,rfl,P (by rw[l];rfl)⟩
         |false=>cbv;exact⟨s.size-(i+1),_,by omega,by constructor<;>cbv,i+1,a.succ (A:=A),rfl,by omega,rfl,P (by rw[l];rfl)⟩
       |false=>cbv;exact⟨s.size-(i+1),_,by omega,by constructor<;>cbv,i+1,a.succ (A:=A),rfl,by omega,rfl,P (by rw[l];rfl)⟩
     rw[a.yY (A:=A) I]at c;have lJ:=kz c;cbv;have V:Au s=true:=by unfold Au;rw[jKy];intro j g;rw[kXb]at g;exact M j (by omega)
     refine(aZA h').mono (λv h2 hR=>?_);obtain⟨R,nb,rfl,ql⟩:=hR;cbv;refine aX.go (G:=Int) (λz=>[(6,.v (.int .i64 z))]) (λ_=>[]) (λn z L=>∃i:Nat,aZ z i/\n=41-i/\i<=41/\L=h2/\∀j,j<i->∀y,jm[j]? =some y->y≠s) 41 0 (by constructor<;>cbv) ⟨0,⟨rfl⟩,by omega,by omega,rfl,λj g=>(by omega)⟩ ?_
     intro n2 z2 L jT;cbv;obtain⟨r,N,eU,Z,rfl,X⟩:=jT;refine ba (λc=>?_) (λc=>?_)
     .have Y:=N.lt c;clear c;cbv;obtain⟨x,hx⟩:=aJ (xs:=jm) (i:=r) Y;refine⟨⟨rfl,N.ix Y⟩,?_⟩;cbv;refine ql.load hx N.eq (λcs B=>?_);have B:cs=[.string x]:=B;subst B;cbv;rw[eK A];by_cases C:x=s
      .rw[ak C];have F:tW s=true:=tV.2 (by rw[<-C];exact cK hx);cbv;exact⟨R,false,rfl,by rw[gS,F];simp⟩
      rw[bn C];cbv;refine⟨41-(r+1),_,by omega,by constructor<;>cbv,r+1,N.succ (A:=A),rfl,by omega,rfl,?_⟩
      intro j g y H;rcases wM j r with h|h
      .exact X j h y H
      have:j=r:=by omega
      subst this;rw[hx]at H;cases H;exact C
     have ag:=N.ge c;have F:tW s=false:=by
      cases O:tW s with
      |false=>rfl
      |true=>have hm:=tV.1 O;obtain⟨j,g⟩:=rK hm;have qQ:j<41:=(ff.1 g).1;exact absurd rfl (X j (by omega) s g)
     cbv;exact⟨R,true,rfl,by rw[gS,D,V,F];rfl⟩
theorem aJO(q:Sl 202 bH h (.slice b n c) B){k:Int}:
 Ct 308 [.agg #[.string nm,.slice b n c,.int .i64 k,.bool only],.string s] h (λv h'=>Le h h'/\∃z t g,v=.tuple #[.int .i64 z,.bool t]/\ur B (λx=>decide (x.name=s)) g/\z=max g 0/\t=decide (g>=0)):=by
 have l:=q.len;obtain⟨W,Z⟩:=q.bound;refine cg eQp Tryz.func308 λA w=>?_;cbv;refine aX.go (G:=Int) (λz=>[(6,.v (.int .i64 z))]) (λ_=>[(2,[.string nm,.slice b n c,.int .i64 k,.bool only])]) (λm z h'=>∃i:Nat,aZ z i/\m=n-i/\i<=n/\h'=h/\∀j,j<i->∀y,B[j]? =some y->decide (y.name=s)=false) n 0 (by constructor<;>cbv) ⟨0,⟨rfl⟩,by omega,by omega,rfl,λj e=>(by omega)⟩ ?_
 intro m z h' I;cbv;obtain⟨i,a,E,D,rfl,M⟩:=I;refine ba (λd=>?_) (λd=>?_)
 .have U:=a.lt d;clear d;cbv;obtain⟨x,hx⟩:=cB B i;refine⟨⟨q.bp,a.ix U⟩,?_⟩;cbv;refine q.cu hx a.eq (o:=0) (m:=1) (by decide) (λcs r=>?_);have r:cs=[.string x.name,.int .i64 x.kind,.bool x.null]:=r;subst r;cbv;rw[eK A];by_cases C:x.name=s
  .rw[ak C];have hR:ur B (λx=>decide (x.name=s)) z:=⟨.inr ⟨i,x,a,hx,by simpa using C,M⟩⟩;have F:=a.eq;have e1:z=max z 0:=by omega
   have u:true=decide (z>=0):=by rw[ak (by omega)]
   cbv;exact⟨Le.refl _,z,true,z,rfl,hR,e1,u⟩
  rw[bn C];cbv;refine⟨n-(i+1),_,by omega,by constructor<;>cbv,i+1,a.succ (A:=A),rfl,by omega,rfl,?_⟩
  intro j e y f;rcases wM j i with p|p
  .exact M j p y f
  have:j=i:=by omega
  subst this;rw[hx]at f;cases f;exact bn C
 have J:=a.ge d;have hR:ur B (λx=>decide (x.name=s)) (-1):=⟨.inl ⟨rfl,λx hx=>by
  obtain⟨j,e⟩:=rK hx;have:=(ff.1 e).1;exact M j (by omega) x e⟩⟩
 cbv;exact⟨Le.refl _,0,false,-1,rfl,hR,rfl,rfl⟩
theorem bKj{b:List jF}{c:jF}(a:b[i]? =some c)(r:ur b (λx=>decide (x.name=c.name)) z):
 decide (max z 0≠(i:Int))=(b.take i).any λx=>decide (x.name=c.name):=by
 have d:=XF a r;rw[<-d,decide_eq_decide];rcases r.out with⟨-,h⟩|⟨k,x,e,hx,p,M⟩
 .have:=h c (cK a);simp at this
 have f:=e.eq;have K:¬i<k:=λh=>by have:=M i h c a;simp at this
 omega
theorem Gl(q:Sl 202 bH h (.slice b n c) B):
 Ct 212 [.agg #[.string nm,.slice b n c,.int .i64 key,.bool only]] h (λv h'=>Le h h'/\∃z,v=.int .i64 z/\z=eE ⟨nm,B,key,only⟩):=by
 obtain⟨A,D⟩:=Ar.ex;have F:=q.len;obtain⟨kW,gZ⟩:=q.bound;have fX:A .not true=false:=by rw[D.not];rfl
 have rG:A .not false=true:=by rw[D.not];rfl
 generalize e1:A .aN .lss (A .nat n) 1=u1;generalize u:A .aN .gtr (A .nat n) 6=u2;generalize O:A .aN .lss key 0=u3;generalize C:A .aN .geq key (A .nat n)=V;have f1:=e1;have f2:=u;have X:=O;have Y:=C;rw[aR A,D.nat]at e1;rw[bC A,D.nat]at u;rw[aR A]at O;rw[cH A,D.nat]at C;simp only[rz]at e1 u C;rw[F]at e1 u C;obtain⟨E,hE⟩:∃E,E=eE ⟨nm,B,key,only⟩:=⟨_,rfl⟩;have S:E=if(!gS nm)=true then 12 else if(u1||u2)=true then 4 else if kX B≠0 then kX B else if(u3||V)=true then 1 else if((B[key.toNat]?).map (·.null)).getD false=true then 13 else 0:=by rw[hE,<-e1,<-u,<-O,<-C];rfl
 rw[<-hE];refine fz eXW A Tryz.func212 ?_;cbv;refine Ji.mono (λv h1 hR=>?_);obtain⟨K,t,rfl,ht⟩:=hR;rw[<-ht]at S;cases t with
 |false=>cbv;rw[rG];cbv;exact⟨K,12,rfl,S.symm⟩
 |true=>
  cbv;rw[fX];cbv;rw[f1];cases u1 with
  |true=>cbv;exact⟨K,4,rfl,S.symm⟩
  |false=>
   cbv;rw[f2];cases u2 with
   |true=>cbv;exact⟨K,4,rfl,S.symm⟩
   |false=>
    have S:E=if kX B≠0 then kX B else if(u3||V)=true then 1 else if((B[key.toNat]?).map (·.null)).getD false=true then 13 else 0:=S
    cbv;refine aX.go (G:=Int) (λz=>[(3,.v (.int .i64 z))]) (λ_=>[(1,[.string nm,.slice b n c,.int .i64 key,.bool only])]) (λm z h'=>∃i:Nat,aZ z i/\m=n-i/\i<=n/\Le h h'/\∀j,j<i->∀y,B[j]? =some y->gU B j y=0) n 0 (by constructor<;>cbv) ⟨0,⟨rfl⟩,by omega,by omega,K,λj hj=>(by omega)⟩ ?_
    intro m z h' hI;cbv;obtain⟨i,r,hm,hi,e,M⟩:=hI;refine ba (λJ=>?_) (λJ=>?_)
    .have aU:=r.lt J;clear J;obtain⟨x,hx⟩:=cB B i;have s:b.isSome=true/\0<=z/\z<(n:Int):=⟨q.bp,r.ix aU⟩;have p:∀ {hh:ad} (w:Int),Le h hh->gU B i x=w->w≠0->Le h hh/\∃z,Value.int .i64 w=.int .i64 z/\z=E:=λw l W hw=>by
      refine⟨l,w,rfl,?_⟩;have:=Gd hx M (by rw[W];exact hw);rw[S,this,W,if_pos hw]
     have iP:∀(I:ad),Le h I->gU B i x=0->∃j:Nat,aZ (A .aT .add .i64 z 1) j/\n-(i+1)=n-j/\j<=n/\Le h I/\∀U,U<j->∀y,B[U]? =some y->gU B U y=0:=λI l e0=>
      ⟨i+1,r.succ (A:=A),rfl,by omega,l,λj hj y H=>by
       rcases wM j i with mA|mA
       .exact M j mA y H
       have:j=i:=by omega
       subst this;rw[hx]at H;cases H;exact e0⟩
     obtain⟨f,k,d⟩:=x;cbv;refine⟨s,?_⟩;cbv;refine(q.mono (e.t _)).cu hx r.eq (o:=0) (m:=1) (by decide) (λcs a=>?_);have a:cs=[.string f,.int .i64 k,.bool d]:=a;subst a;cbv;refine(aJO (q.mono (e.t _))).mono (λv I hR=>?_);obtain⟨l2,zk,tk,ab,rfl,jb,Oq,Np⟩:=hR;have Z:=e.trans l2;have N:=bKj hx jb;rw[<-Oq]at N;generalize P:A .aN .neq zk z=w1;have k1:=P;rw[az A,r.eq]at P;rw[P]at N;generalize R:A .aN .lss k 1=w2;generalize T:A .aN .gtr k 3=w3;have k2:=R;have k3:=T;rw[aR A]at R;rw[bC A]at T;cbv;refine⟨s,?_⟩;cbv;refine(q.mono (Z.t _)).cu hx r.eq (o:=0) (m:=1) (by decide) (λcs a=>?_);have a:cs=[.string f,.int .i64 k,.bool d]:=a;subst a;cbv;refine Ji.mono (λv h3 hR=>?_);obtain⟨l3,tn,rfl,UP⟩:=hR;have L:=Z.trans l3;have key:gU B i ⟨f,k,d⟩=if(!tn||w1)=true then 12 else if(w2||w3)=true then 3 else 0:=by rw[UP,N,<-R,<-T];rfl
     cases tn with
     |false=>have key:gU B i ⟨f,k,d⟩=12:=key;cbv;rw[rG];cbv;exact p 12 L key (by omega)
     |true=>
      cbv;rw[fX];cbv;rw[k1];cases w1 with
      |true=>have key:gU B i ⟨f,k,d⟩=12:=key;cbv;exact p 12 L key (by omega)
      |false=>
       cbv;refine⟨s,?_⟩;cbv;refine(q.mono (L.t _)).cu hx r.eq (o:=1) (m:=1) (by decide) (λcs a=>?_);have a:cs=[.string f,.int .i64 k,.bool d]:=a;subst a;cbv;rw[k2];cases w2 with
       |true=>have key:gU B i ⟨f,k,d⟩=3:=key;cbv;exact p 3 L key (by omega)
       |false=>
        cbv;refine⟨s,?_⟩;cbv;refine(q.mono (L.t _)).cu hx r.eq (o:=1) (m:=1) (by decide) (λcs a=>?_);have a:cs=[.string f,.int .i64 k,.bool d]:=a;subst a;cbv;rw[k3];cases w3 with
        |true=>have key:gU B i ⟨f,k,d⟩=3:=key;cbv;exact p 3 L key (by omega)
        |false=>
         have key:gU B i ⟨f,k,d⟩=0:=key;have g:=iP h3 L key;cbv;refine⟨n-(i+1),_,by omega,by constructor<;>cbv,g⟩
    have lJ:=r.ge J;have Q:kX B=0:=Bb (λj hj y H=>M j (by omega) y H);rw[Q,if_neg (by simp)]at S;cbv;rw[X];cases u3 with
    |true=>cbv;exact⟨e,1,rfl,S.symm⟩
    |false=>
     cbv;rw[Y];cases V with
     |true=>cbv;exact⟨e,1,rfl,S.symm⟩
     |false=>
      obtain⟨fG,rY⟩:=Ol A X Y;obtain⟨x,hx⟩:=cB B key.toNat;have s:b.isSome=true/\0<=key/\key<(n:Int):=⟨q.bp,fG.ix rY⟩;rw[hx]at S;obtain⟨f,k,d⟩:=x;cbv;refine⟨s,?_⟩;cbv;refine(q.mono (e.t _)).cu hx fG.eq (o:=2) (m:=1) (by decide) (λcs a=>?_);have a:cs=[.string f,.int .i64 k,.bool d]:=a;subst a;cases d with
      |true=>cbv;exact⟨e,13,rfl,S.symm⟩
      |false=>cbv;exact⟨e,0,rfl,S.symm⟩
def jI:Sh eY where
 n:=3
 R h cs t:=∃b1 n1 c1 b2 n2 c2,cs=[.int .i64 t.s,.slice b1 n1 c1,.slice b2 n2 c2]/\Sl 161 bz h (.slice b1 n1 c1) t.log/\Sl 340 df h (.slice b2 n2 c2) t.marks
 len:=by rintro h cs x ⟨_,_,_,_,_,_,rfl,-⟩;rfl
 one:=by rintro h cs x ⟨_,_,_,_,_,_,rfl,-⟩;rfl
 tys:=[161,45,340]
 mono:=by rintro h h' cs x hl ⟨b1,n1,c1,b2,n2,c2,rfl,q1,q2⟩;exact⟨b1,n1,c1,b2,n2,c2,rfl,q1.mono (hl.sub),q2.mono (hl.sub)⟩
structure RP(h:ad)(b1:Option Addr)(n1 c1:Nat)(b2:Option Addr)(n2 c2:Nat)(b3:Option Addr)(n3 c3:Nat)(b4:Option Addr)(n4 c4:Nat)(d:DB):Prop where
 ao:Sl 132 bN h (.slice b1 n1 c1) d.ao
 ai:Sl 337 jI h (.slice b2 n2 c2) d.ai
 holds:Sl 422 bu h (.slice b3 n3 c3) d.holds
 waits:Sl 422 bu h (.slice b4 n4 c4) d.waits
theorem RP.lt{a c e:Option Addr}{f k g m:Nat}(q:RP h b n f a k g c m i e o j d)(l:cO [132,202,46,45,337,161,340,422] h h'):RP h' b n f a k g c m i e o j d:=
 ⟨q.ao.mono (l.sub),q.ai.mono (l.sub),q.holds.mono (l.sub),q.waits.mono (l.sub)⟩
theorem RP.mono{a c e:Option Addr}{f k g m:Nat}(q:RP h b n f a k g c m i e o j d)(l:Le h h'):RP h' b n f a k g c m i e o j d:=q.lt (l.t _)
theorem Ge{a b:List UInt8}:∀ {i:Nat},i<=a.length->i<=b.length->(∀j,j<i->a[j]? =b[j]?)->Lib.compareBytes a b=Lib.compareBytes (a.drop i) (b.drop i)
 |0,_,_,_=>rfl
 |i+1,h,c,M=>by
  cases a with
  |nil=>simp at h
  |cons x a=>
   cases b with
   |nil=>simp at c
   |cons y b=>
    have h0:x=y:=by have:=M 0 (by omega);simpa using this
    subst h0;have:Lib.compareBytes (x::a) (x::b)=Lib.compareBytes a b:=by simp[Lib.compareBytes]
    rw[this,kQW,kQW];exact Ge (by simpa using h) (by simpa using c) (λj d=>by have:=M (j+1) (by omega);simpa using this)
theorem ZG{a b:ByteArray}(W:a.size<=2^60):Ct 214 [.string a,.string b] h (λv h'=>Le h h'/\∃t,v=.bool t/\t=decide (dA a b<0)):=by
 obtain⟨A,p⟩:=Ar.ex;have Y:aZ (A .lC a) a.size:=⟨by rw[p.lC]⟩;have B:aZ (A .lC b) b.size:=⟨by rw[p.lC]⟩;have V:a.data.toList.length=a.size:=by rw[jKo];rfl
 have H:b.data.toList.length=b.size:=by rw[jKo];rfl
 have F:∀(s:ByteArray) (i:Nat),i<s.size->∃x:UInt8,s.data.toList[i]? =some x/\iX s i=(x.toNat:Int):=λs i R=>by
  have C:i<s.data.size:=R;refine⟨s.data[i],by simp[C],?_⟩;simp[iX,kQf C]
 have o:∀s z i,aZ z i->A .byte s z=iX s i:=λs z i c=>by
  rw[p.byte];simp only[iX];rw[c.eq];rfl
 refine fz eXU A Tryz.func214 ?_;cbv;refine aX.go (G:=Int) (λz=>[(5,.v (.int .i64 z))]) (λ_=>[]) (λm z h'=>∃i:Nat,aZ z i/\m=a.size-i/\i<=a.size/\i<=b.size/\h'=h/\∀j,j<i->a.data.toList[j]? =b.data.toList[j]?) a.size 0 (by constructor<;>cbv) ⟨0,⟨rfl⟩,by omega,by omega,by omega,rfl,λj S=>(by omega)⟩ ?_
 intro m z h' O;cbv;obtain⟨i,c,hm,Z,P,rfl,M⟩:=O;have X:=Ge (a:=a.data.toList) (b:=b.data.toList) (i:=i) (by omega) (by omega) M;have g:A .aN .lss z (A .lC a)=decide (i<a.size):=c.yY Y;have k:A .aN .lss z (A .lC b)=decide (i<b.size):=c.yY B;have D:A .aN .lss (A .lC a) (A .lC b)=decide (a.size<b.size):=Y.yY B;by_cases l:i<a.size
 .rw[ak l]at g;rw[g];cbv;by_cases n:i<b.size
  .rw[ak n]at k;rw[k];obtain⟨x,hx,f⟩:=F a i l;obtain⟨y,E,w⟩:=F b i n;have Q:a.data.toList.drop i=x::a.data.toList.drop (i+1):=by rw[Rs (by omega)];rw[(ff.1 hx).2]
   have J:b.data.toList.drop i=y::b.data.toList.drop (i+1):=by rw[Rs (by omega)];rw[(ff.1 E).2]
   rw[Q,J]at X;have q:(0:Int)<=z/\z<(a.size:Int):=c.ix l;have u:(0:Int)<=z/\z<(b.size:Int):=c.ix n;have I:A .aN .neq (A .byte a z) (A .byte b z)=decide (x≠y):=by
    rw[o a z i c,o b z i c,az A,f,w,decide_eq_decide];refine not_congr ?_;constructor
    .intro e;exact kQA.1 (kXY.1 e)
    rintro rfl;rfl
   have N:A .aN .lss (A .byte a z) (A .byte b z)=decide (x<y):=by rw[o a z i c,o b z i c,aR A,f,w,decide_eq_decide,kQk];exact Int.ofNat_lt
   cbv;refine⟨q,?_⟩;cbv;refine⟨u,?_⟩;cbv;rw[I];by_cases L:x=y
   .rw[bn (by simp[L])];cbv;refine⟨a.size-(i+1),_,by omega,by constructor<;>cbv,i+1,c.succ (A:=A),rfl,by omega,by omega,rfl,?_⟩
    .intro j S;rcases wM j i with h|h
     .exact M j h
     have:j=i:=by omega
     rw[this,hx,E,L]
   rw[ak (by simpa using L)];have d:decide (x<y)=decide (dA a b<0):=by
    unfold dA;rw[X];simp only[Lib.compareBytes];by_cases U:x<y
    .simp[U]
    have:y<x:=by rw[kQk]at U |-;have:x.toNat≠y.toNat:=λe=>L (kQA.1 e);omega
    simp[U,this]
   cbv;refine⟨q,?_⟩;cbv;refine⟨u,?_⟩;cbv;rw[N];exact⟨Le.refl _,_,rfl,d⟩
  rw[bn n]at k;rw[k];have T:b.data.toList.drop i=[]:=RR (by omega);have d:decide (a.size<b.size)=decide (dA a b<0):=by
   unfold dA;rw[X,T];have:a.data.toList.drop i≠[]:=by intro e;have:=congrArg List.length e;rw[iz]at this;simp at this;omega
   cases hd:a.data.toList.drop i with
   |nil=>exact absurd hd this
   |cons x r=>simp only[Lib.compareBytes];rw[bn (by omega)];rfl
  cbv;rw[D];exact⟨Le.refl _,_,rfl,d⟩
 rw[bn l]at g;rw[g];have K:a.data.toList.drop i=[]:=RR (by omega);have d:decide (a.size<b.size)=decide (dA a b<0):=by
  unfold dA;rw[X,K];cases hd:b.data.toList.drop i with
  |nil=>have:=congrArg List.length hd;rw[iz]at this;simp at this;simp only[Lib.compareBytes];rw[bn (by omega)];rfl
  |cons y r=>have:=congrArg List.length hd;rw[iz]at this;simp at this;simp only[Lib.compareBytes];rw[ak (by omega)];rfl
 cbv;rw[D];exact⟨Le.refl _,_,rfl,d⟩
theorem wz{e f g k:Option Addr}{l u w p B r:Nat}(q:RP h e n l f u o g w p k B r d):
 Ct 213 [.agg #[.slice e n l,.slice f u o,.slice g w p,.slice k B r],.string nm] h (λv h'=>Le h h'/\∃z,v=.int .i64 z/\ur d.ao (λt=>decide (t.S.name=nm)) z):=by
 have D:=q.ao.len;have Q:=q.ao.bound;refine cg eXV Tryz.func213 λA H=>?_;cbv;refine aX.go (G:=Int) (λz=>[(5,.v (.int .i64 z))]) (λ_=>[(2,[.slice e n l,.slice f u o,.slice g w p,.slice k B r])]) (λm z h'=>∃i:Nat,aZ z i/\m=n-i/\i<=n/\h'=h/\∀j,j<i->∀y,d.ao[j]? =some y->decide (y.S.name=nm)=false) n 0 (by constructor<;>cbv) ⟨0,⟨rfl⟩,by omega,by omega,rfl,λj b=>(by omega)⟩ ?_
 intro m z h' I;cbv;obtain⟨i,a,K,J,rfl,M⟩:=I;refine ba (λc=>?_) (λc=>?_)
 .have U:=a.lt c;clear c;cbv;obtain⟨x,hx⟩:=cB d.ao i;refine⟨⟨q.ao.bp,a.ix U⟩,?_⟩;cbv;refine q.ao.BY hx a.eq (o1:=0) (o2:=0) (m:=1) (by decide) (λcs F=>?_);obtain⟨_,_,_,_,_,_,rfl,-,-⟩:=F;cbv;rw[eK A];by_cases C:x.S.name=nm
  .rw[ak C];have hR:ur d.ao (λt=>decide (t.S.name=nm)) z:=⟨.inr ⟨i,x,a,hx,by simpa using C,M⟩⟩;cbv;exact⟨Le.refl _,z,rfl,hR⟩
  rw[bn C];cbv;refine⟨n-(i+1),_,by omega,by constructor<;>cbv,i+1,a.succ (A:=A),rfl,by omega,rfl,?_⟩
  intro j b y s;rcases wM j i with E|E
  .exact M j E y s
  have:j=i:=by omega
  subst this;rw[hx]at s;cases s;exact bn C
 have L:=a.ge c;have hR:ur d.ao (λt=>decide (t.S.name=nm)) (-1):=⟨.inl ⟨rfl,λx hx=>by
  obtain⟨j,b⟩:=rK hx;have:=(ff.1 b).1;exact M j (by omega) x b⟩⟩
 cbv;exact⟨Le.refl _,-1,rfl,hR⟩
theorem aZG{a:Type}{xs:List a}{p:a->Bool}(q:ur xs p z):decide (z>=0)=xs.any p:=by
 rcases q.out with⟨rfl,h⟩|⟨i,x,c,hx,b,-⟩
 .rw[eq_comm];simpa using h
 have:=c.eq;rw[ak (by omega),eq_comm,jKL];exact⟨x,cK hx,b⟩
def cX(T:List ca)(nm:ByteArray):Nat:=(T.takeWhile λt=>decide (dA t.S.name nm<0)).length
def dv(d:DB)(s:tE):DB×Int:=
 if decide (eE s≠0)=true then(d,eE s)
 else if d.ao.any (λt=>decide (t.S.name=s.name))=true then(d,7)
 else if decide ((d.ao.length:Int)>=8)=true then(d,4)
 else if decide ((d.ai.length:Int)>0)=true then(d,18)
 else(gR d (d.ao.take (cX d.ao s.name)++[⟨s,[]⟩]++d.ao.drop (cX d.ao s.name)),0)
abbrev RK(h:ad)(d':DB)(e:Int)(k:Value->ad->Prop):Prop:=
 ∀h' b1 n1 c1 b2 n2 c2 b3 n3 c3 b4 n4 c4,Le h h'->RP h' b1 n1 c1 b2 n2 c2 b3 n3 c3 b4 n4 c4 d'->k (.tuple #[.agg #[.slice b1 n1 c1,.slice b2 n2 c2,.slice b3 n3 c3,.slice b4 n4 c4],.int .i64 e]) h'
theorem Eu{c:Type}{p:c->Bool}:∀ {xs:List c} {i:Nat},(∀j,j<i->∀y,xs[j]? =some y->p y=true)->i<=xs.length->(i<xs.length->∃y,xs[i]? =some y/\p y=false)->(xs.takeWhile p).length=i
 | [],i,_,a,_=>by simp at a;simp[a]
 |x::r,0,_,_,s=>by
  obtain⟨y,b,d⟩:=s (by simp);simp at b;subst b;simp[d]
 |x::r,i+1,M,a,s=>by
  have hx:=M 0 (by omega) x rfl;rw[kQP hx,wS];rw[Eu (xs:=r) (i:=i) (λj e y b=>M (j+1) (by omega) y (by simpa using b)) (by simpa using a) (λh=>by simpa using s (by simpa using h))]
theorem HB{H p r u:Option Addr}{b f w E B F C:Nat}(q:RP h H b f p o w r E B u F C d){N:List jF}{sn:Nat}(qs:Sl 202 bH h (.slice sb sn sc) N)
 (hl:d.ao.length<=2^37) (ab:∀t∈d.ao,t.S.name.size<=2^60)  (a:dv d ⟨nm,N,key,only⟩=D)  (O:RK h D.1 D.2 k):
 Ct 93 [.agg #[.slice H b f,.slice p o w,.slice r E B,.slice u F C],.agg #[.string nm,.slice sb sn sc,.int .i64 key,.bool only]] h k:=by
 obtain⟨A,hA⟩:=Ar.ex;have V:=q.ao.len;have jQ:=q.ao.bound;have uC:=q.ai.len;unfold dv at a;generalize g:A .aN .geq (A .nat b) 8=u8;generalize J:A .aN .gtr (A .nat o) 0=Q;have P:=g;have al:=J;rw[cH A,hA.nat]at g;rw[bC A,hA.nat]at J;simp only[rz]at g J;rw[V]at g;rw[uC]at J;rw[g,J]at a;refine fz hJv A Tryz.func93 ?_;cbv;refine(Gl (nm:=nm) (key:=key) (only:=only) qs).mono (λv h1 hR=>?_);obtain⟨l1,ze,W,an⟩:=hR;rw[W];rw[<-an]at a;generalize e0:A .aN .neq ze 0=u0;have f0:=e0;rw[az A]at e0;rw[e0]at a;cbv;rw[f0];cases u0 with
 |true=>have a:(d,ze)=D:=a;have c:=O h1 H b f p o w r E B u F C l1 (by rw[<-a];exact q.mono l1);rw[<-a]at c;cbv;exact c
 |false=>
  cbv;refine(wz (q.mono l1)).mono (λv h2 hR=>?_);obtain⟨l2,zf,W,jb⟩:=hR;rw[W];have I:=l1.trans l2;have rU:=aZG jb;generalize e7:A .aN .geq zf 0=u7;have f7:=e7;rw[cH A]at e7;rw[e7]at rU;have a:(if d.ao.any (λt=>decide (t.S.name=nm))=true then(d,7)else if u8=true then(d,4)else if Q=true then(d,18)
   else(gR d (d.ao.take (cX d.ao nm)++[⟨⟨nm,N,key,only⟩,[]⟩]++d.ao.drop (cX d.ao nm)),0))=D:=a
  rw[<-rU]at a;cbv;rw[f7];cases u7 with
  |true=>have a:(d,7)=D:=a;have c:=O h2 H b f p o w r E B u F C I (by rw[<-a];exact q.mono I);rw[<-a]at c;cbv;exact c
  |false=>
   cbv;rw[P];cases u8 with
   |true=>have a:(d,4)=D:=a;have c:=O h2 H b f p o w r E B u F C I (by rw[<-a];exact q.mono I);rw[<-a]at c;cbv;exact c
   |false=>
    cbv;rw[al];cases Q with
    |true=>have a:(d,18)=D:=a;have c:=O h2 H b f p o w r E B u F C I (by rw[<-a];exact q.mono I);rw[<-a]at c;cbv;exact c
    |false=>
     have a:(gR d (d.ao.take (cX d.ao nm)++[⟨⟨nm,N,key,only⟩,[]⟩]++d.ao.drop (cX d.ao nm)),0)=D:=a;cbv;refine aX.go (G:=Int) (λz=>[(7,.v (.int .i64 z))]) (λ_=>[(2,[.slice H b f,.slice p o w,.slice r E B,.slice u F C]),(3,[.string nm,.slice sb sn sc,.int .i64 key,.bool only]),(4,[.slice none 0 0,.slice none 0 0,.slice none 0 0,.slice none 0 0])])
      (λm z h'=>∃i:Nat,aZ z i/\m=b-i/\i<=b/\Le h h'/\∀j,j<i->∀y,d.ao[j]? =some y->decide (dA y.S.name nm<0)=true) b 0 ⟨?_,?_,?_⟩ ⟨0,⟨rfl⟩,by omega,by omega,I,λj hj=>(by omega)⟩ ?_
     .cbv
     .cbv
     .cbv
     intro m z h' hI;cbv;obtain⟨i,e,hm,hi,l,bM⟩:=hI;have g1:A .aN .lss z (A .nat b)=decide (i<b):=e.yY (aZ.nat b);rw[g1];rcases wM i b with aU|lJ
     .rw[ak aU];have ON:=e.ix aU;obtain⟨x,hx⟩:=cB d.ao i;have qh:=q.mono l;cbv;refine⟨⟨qh.ao.bp,ON⟩,?_⟩;cbv;refine qh.ao.BY hx e.eq (o1:=0) (o2:=0) (m:=1) (by decide) (λcs ar=>?_);obtain⟨_,_,_,_,_,_,rfl,-,-⟩:=ar;cbv;refine(ZG (ab x (cK hx))).mono (λv h3 hR=>?_);obtain⟨l3,t,W,ht⟩:=hR;rw[W];have Ds:=l.trans l3;cbv;cases t with
      |true=>
       cbv;refine⟨b-(i+1),_,by omega,by constructor<;>cbv,i+1,e.succ (A:=A),rfl,by omega,Ds,?_⟩
       intro j hj y hy;rcases wM j i with mA|mA
       .exact bM j mA y hy
       have:j=i:=by omega
       subst this;rw[hx]at hy;cases hy;exact ht.symm
      |false=>
       have mP:cX d.ao nm=i:=Eu bM (by omega) (λ_=>⟨x,hx,ht.symm⟩);have L:=q.mono Ds;have Z:A .nt z 0=i:=dy (A:=A) e;obtain⟨OX,OW⟩:=jQ;have gu:0<=z/\z<=(f:Int):=by have:=e.eq;omega
       have ll:0<=z/\z<=(b:Int):=by have:=e.eq;omega
       have T:i<=b:=hi;cbv;intro n6 S g6 e6;have Y:Le h3 S:=by rw[e6];exact Le.set g6
       have q6:=L.mono Y;cbv;refine⟨gu,?_⟩;cbv;have fB:bt 132 bN h3 S (.slice (zsA n6) 0 0) ([]:List ca):=bt.nil;refine fB.append (q6.ao.sA (A:=A) (s:=bN) (z:=A .nat f) T Z Z) (by decide) rfl (by decide) (by rw[Z];omega) Y (λm7 b7 c7 h7 Mr l7 t7 k7 iF=>?_);cbv;intro n8 U g8 g;have K:Le h7 U:=by rw[g];exact Le.set g8
       have P:=(congrFun g n8).trans ae;have r8:bN.R U [.string nm,.slice sb sn sc,.int .i64 key,.bool only,.slice none 0 0] ⟨⟨nm,N,key,only⟩,[]⟩:=⟨_,_,_,_,_,_,rfl,qs.mono ((Ds.trans (l7.trans K)).t _),Sl.nil⟩;have v8:=bf (s:=bN) P r8;cbv;refine(iF.mono (K.t _)).append v8 (by decide) rfl (by decide) (by omega) (l7.trans K) (λm9 b9 c9 h9 ag l9 t9 k9 uS=>?_);have q9:=L.mono l9;have xT:=cJ (A:=A) e (n:=b);cbv;refine⟨ll,?_⟩;cbv;refine uS.append (q9.ao.jD (A:=A) (s:=bN) e T xT (c':=f-i) rfl) (by decide) rfl (by decide) (by rw[xT];omega) l9 (λHL Ed Iw iw AW R ao AD kV=>?_);have X:=kV.sl;rw[np]at X;rw[mP]at a;have M:=L.mono R;have hL:=Ds.trans R;have c:=O iw Ed HL Iw p o w r E B u F C hL (by rw[<-a];exact⟨X,M.ai,M.holds,M.waits⟩);rw[<-a]at c;cbv;exact c
     rw[bn (by omega)];have mP:cX d.ao nm=i:=Eu bM (by omega) (λh=>by omega);have L:=q.mono l;have Z:A .nt z 0=i:=dy (A:=A) e;obtain⟨OX,OW⟩:=jQ;have gu:0<=z/\z<=(f:Int):=by have:=e.eq;omega
     have ll:0<=z/\z<=(b:Int):=by have:=e.eq;omega
     have T:i<=b:=hi;cbv;intro n6 S g6 e6;have Y:Le h' S:=by rw[e6];exact Le.set g6
     have q6:=L.mono Y;cbv;refine⟨gu,?_⟩;cbv;have fB:bt 132 bN h' S (.slice (zsA n6) 0 0) ([]:List ca):=bt.nil;refine fB.append (q6.ao.sA (A:=A) (s:=bN) (z:=A .nat f) T Z Z) (by decide) rfl (by decide) (by rw[Z];omega) Y (λm7 b7 c7 h7 Mr l7 t7 k7 iF=>?_);cbv;intro n8 U g8 g;have K:Le h7 U:=by rw[g];exact Le.set g8
     have P:=(congrFun g n8).trans ae;have r8:bN.R U [.string nm,.slice sb sn sc,.int .i64 key,.bool only,.slice none 0 0] ⟨⟨nm,N,key,only⟩,[]⟩:=⟨_,_,_,_,_,_,rfl,qs.mono ((l.trans (l7.trans K)).t _),Sl.nil⟩;have v8:=bf (s:=bN) P r8;cbv;refine(iF.mono (K.t _)).append v8 (by decide) rfl (by decide) (by omega) (l7.trans K) (λm9 b9 c9 h9 ag l9 t9 k9 uS=>?_);have q9:=L.mono l9;have xT:=cJ (A:=A) e (n:=b);cbv;refine⟨ll,?_⟩;cbv;refine uS.append (q9.ao.jD (A:=A) (s:=bN) e T xT (c':=f-i) rfl) (by decide) rfl (by decide) (by rw[xT];omega) l9 (λHL Ed Iw iw AW R ao AD kV=>?_);have X:=kV.sl;rw[np]at X;rw[mP]at a;have M:=L.mono R;have hL:=l.trans R;have c:=O iw Ed HL Iw p o w r E B u F C hL (by rw[<-a];exact⟨X,M.ai,M.holds,M.waits⟩);rw[<-a]at c;cbv;exact c
def eN:Nat->DB
 |0=>⟨[],[],[],[]⟩
 |i+1=>(cf (eN i) (aP i)).1
def nO:Nat->DB
 |0=>⟨[],[],[],[]⟩
 |i+1=>(dv (nO i) (aP i)).1
def gi(i:Nat):ca:=⟨aP i,[]⟩
def eR:DB:=⟨[gi 0,gi 1,gi 2],[],[],[]⟩
theorem Qd:eN 1=⟨[gi 0],[],[],[]⟩:=by cbv
theorem Qc:eN 2=⟨[gi 0,gi 1],[],[],[]⟩:=by cbv
theorem wW:eN 3=eR:=by cbv
theorem aXu:nO 1=⟨[gi 0],[],[],[]⟩:=by cbv
theorem aXt:nO 2=⟨[gi 0,gi 1],[],[],[]⟩:=by cbv
theorem Qb:nO 3=eR:=by cbv
theorem po:∀i,i<=3->Small (eN i)
 |0,_=>⟨by decide,by decide,by simp[eN],by decide,by decide⟩
 |1,_=>by rw[Qd];exact⟨by simp,by simp,by simp[gi],by simp,by simp⟩
 |2,_=>by rw[Qc];exact⟨by simp,by simp,by simp[gi],by simp,by simp⟩
 |3,_=>by rw[wW];exact⟨by simp[eR],by simp[eR],by simp[eR,gi],by simp[eR],by simp[eR]⟩
 |n+4,h=>by omega
theorem iG:∀i,i<3->(gi i).S.name.size<=2^60
 |0,_=>by decide
 |1,_=>by decide
 |2,_=>by decide
 |n+3,h=>by omega
theorem Ag:∀i,i<=3->(nO i).ao.length<=2^37/\∀t∈(nO i).ao,t.S.name.size<=2^60
 |0,_=>by simp[nO]
 |1,_=>by rw[aXu];simp[iG 0]
 |2,_=>by rw[aXt];simp[iG 0,iG 1]
 |3,_=>by rw[Qb];simp[eR,iG 0,iG 1,iG 2]
 |n+4,h=>by omega
structure bZi where
 b1:Option Addr
 n1:Nat
 c1:Nat
 b2:Option Addr
 n2:Nat
 c2:Nat
 b3:Option Addr
 n3:Nat
 c3:Nat
 b4:Option Addr
 n4:Nat
 c4:Nat
theorem aXv(hk:∀h' e K p f L r j M t n N u v F e1 w H B x I C y J E,Le h h'->
 fE h' (.agg #[.slice e K p,.slice f L r,.slice j M t,.slice n N u]) eR->RP h' v F e1 w H B x I C y J E eR->
 k (.tuple #[.agg #[.slice e K p,.slice f L r,.slice j M t,.slice n N u],.agg #[.slice v F e1,.slice w H B,.slice x I C,.slice y J E]]) h'):
 Ct 35 [] h k:=by
 refine cg hKo Tryz.func35 λA hA=>?_;cbv;refine aX.go (G:=Int×bZi×bZi) (λg=>[(4,.v (.int .i64 g.1))]) (λg=>[(0,[.slice none 0 0,.slice none 0 0,.slice none 0 0,.slice none 0 0]),(1,[.slice none 0 0,.slice none 0 0,.slice none 0 0,.slice none 0 0]),(2,[.slice g.2.1.b1 g.2.1.n1 g.2.1.c1,.slice g.2.1.b2 g.2.1.n2 g.2.1.c2,.slice g.2.1.b3 g.2.1.n3 g.2.1.c3,.slice g.2.1.b4 g.2.1.n4 g.2.1.c4]),(3,[.slice g.2.2.b1 g.2.2.n1 g.2.2.c1,.slice g.2.2.b2 g.2.2.n2 g.2.2.c2,.slice g.2.2.b3 g.2.2.n3 g.2.2.c3,.slice g.2.2.b4 g.2.2.n4 g.2.2.c4])])
  (λm g h'=>∃i,aZ g.1 i/\m=3-i/\i<=3/\Le h h'/\fE h' (.agg #[.slice g.2.1.b1 g.2.1.n1 g.2.1.c1,.slice g.2.1.b2 g.2.1.n2 g.2.1.c2,.slice g.2.1.b3 g.2.1.n3 g.2.1.c3,.slice g.2.1.b4 g.2.1.n4 g.2.1.c4]) (eN i)/\RP h' g.2.2.b1 g.2.2.n1 g.2.2.c1 g.2.2.b2 g.2.2.n2 g.2.2.c2 g.2.2.b3 g.2.2.n3 g.2.2.c3 g.2.2.b4 g.2.2.n4 g.2.2.c4 (nO i)) 3
  (0,⟨none,0,0,none,0,0,none,0,0,none,0,0⟩,⟨none,0,0,none,0,0,none,0,0,none,0,0⟩) ⟨?_,?_,?_⟩ ⟨0,⟨rfl⟩,by omega,by omega,Le.refl _,fJV h,⟨Sl.nil,Sl.nil,Sl.nil,Sl.nil⟩⟩ ?_
 .cbv
 .cbv
 .cbv
 intro m g h' hI;cbv;obtain⟨i,a,hm,d,l,q,b⟩:=hI;obtain⟨z,⟨e,K,p,f,L,r,j,M,t,n,N,u⟩,⟨v,F,e1,w,H,B,x,I,C,y,J,E⟩⟩:=g;have a:aZ z i:=a;have q:fE h' (.agg #[.slice e K p,.slice f L r,.slice j M t,.slice n N u]) (eN i):=q;have b:RP h' v F e1 w H B x I C y J E (nO i):=b;refine ba (λc=>?_) (λc=>?_)
 .have aU:i<3:=by rw[aR A,NB]at c;have c:z<3:=c;have:=a.eq;omega
  clear c;cbv;refine Ai a aU h' (λh2 sb sn sc nm o l2 qE ho qs=>?_);obtain⟨D,O⟩:∃D,D=cf (eN i) (aP i):=⟨_,rfl⟩;have hD:cf (eN i) ⟨nm,bG,0,o⟩=D:=by rw[qE,ho,O];rfl
  have X:D.1=eN (i+1):=by rw[O];rfl
  clear O;obtain⟨R,Z⟩:∃R,R=dv (nO i) (aP i):=⟨_,rfl⟩;have s:R.1=nO (i+1):=by rw[Z];rfl
  obtain⟨T,hT⟩:∃T,T=eN (i+1):=⟨_,rfl⟩;obtain⟨U,hU⟩:∃U,U=nO (i+1):=⟨_,rfl⟩;rw[<-hT]at X;rw[<-hU]at s;cbv;refine Cx (q.mono l2) (nm:=nm) (key:=0) (only:=o) qs (po i d) hD (λh3 f1 p1 g1 f2 p2 g2 f3 p3 g3 f4 p4 g4 l3 Y=>?_);cbv;refine Ai a aU h3 (λh4 ag al ab Q o4 l4 S V P=>?_);have hR:dv (nO i) ⟨Q,bG,0,o4⟩=R:=by rw[S,V,Z];rfl
  have rE:=(l2.trans l3).trans l4;cbv;refine HB (b.mono rE) (nm:=Q) (key:=0) (only:=o4) P (Ag i d).1 (Ag i d).2 hR (λh5 r1 s1 t1 r2 s2 t2 r3 s3 t3 r4 s4 t4 l5 W=>?_);cbv;refine⟨3-(i+1),(_,⟨f1,p1,g1,f2,p2,g2,f3,p3,g3,f4,p4,g4⟩,⟨r1,s1,t1,r2,s2,t2,r3,s3,t3,r4,s4,t4⟩),by omega,by constructor<;>cbv,i+1,a.succ (A:=A),rfl,by omega,l.trans (rE.trans l5),by rw[<-hT,<-X];exact Y.mono (l4.trans l5),by rw[<-hU,<-s];exact W⟩
 have lJ:i=3:=by rw[aR A,decide_eq_false_iff_not]at c;have c:¬z<3:=c;have:=a.eq;omega
 clear c;subst lJ;rw[wW]at q;rw[Qb]at b;have ay:=hk _ _ _ _ _ _ _ _ _ _ _ _ _ _ _ _ _ _ _ _ _ _ _ _ _ l q b;cbv;refine⟨⟨_,rfl,rfl⟩,?_⟩;cbv;exact ay
theorem Vr(a:Int)(n:Nat)(o:0<n)(U:n<=2^40)(h:ad)(l:∀z i,aZ z i->i=(a % (n:Int)).toNat->i<n->k (.int .i64 z) h):Ct 269 [.int .i64 a,.int .i64 (n:Int)] h k:=by
 obtain⟨A,c⟩:=Ar.ex;obtain⟨m,b⟩:∃m:Int,m=(n:Int):=⟨_,rfl⟩;rw[<-b];have D:m≠0:=by omega
 have I:A .aT .rem .i64 a m=a.tmod m:=by rw[c.aT];rfl
 have v:a.tmod m<m:=by have:=kQS a (show 0<m by omega);omega
 have Z:-m<a.tmod m:=by have:=kQR a (show 0<m by omega);omega
 have w:a % m=if a.tmod m<0 then a.tmod m+m else a.tmod m:=by
  rw[kQQ];have g:=jKh a D;have j:=jKG a (show 0<m by omega);by_cases d:0<=a\/m ∣ a
  .rw[if_pos d];rw[if_neg (by omega)];omega
  rw[if_neg d];have:(m.natAbs:Int)=m:=by omega
  rw[this,if_pos (by omega)];omega
 generalize q:a.tmod m=t at *;generalize e:A .aN .lss t 0=u;have f:=e;rw[aR A]at e;have key:∀z:Int,z=a % m->k (.int .i64 z) h:=λz s=>by
  have g:=jKh a D;have j:=jKG a (show 0<m by omega);refine l z (a % (n:Int)).toNat ⟨?_⟩ rfl ?_
  .rw[<-b];omega
  rw[<-b];omega
 have W:t<0->A .aT .add .i64 t m=t+m:=λh=>by
  rw[c.aT];simp only[aT];rw[IntWalk.i64_in _ (by omega)]
 refine fz eQY A Tryz.func269 ?_;cbv;refine⟨D,?_⟩;cbv;rw[I];rw[f];cases u with
 |true=>have p:=lA e;have r:=key (t+m) (by rw[w,if_pos p]);cbv;rw[W p];exact r
 |false=>have p:=kz e;have r:=key t (by rw[w,if_neg p]);cbv;exact r
theorem nK(a:Int)(m:Int)(c:m=(n:Int))(d:0<n)(e:n<=2^40)(h:ad)(b:∀z i,aZ z i->i=(a % (n:Int)).toNat->i<n->k (.int .i64 z) h):Ct 269 [.int .i64 a,.int .i64 m] h k:=by subst c;exact Vr a n d e h b
def dZ:ByteArray:=⟨#[]⟩
def GX(i:Nat)(a:Int):Int:=(a.tdiv (1+3*(i:Int))) % 40-5
def pY:ByteArray:=⟨#[97,98,99,100,101,102,103,104,105,106,107,108,109,110,111,112,113,114,115,116,117,118,119,120,121,122]⟩
def mU(c:jF)(i:Nat)(a:Int):jd:=
 if c.null=true/\a % 5=0 then⟨0,0,dZ⟩else if c.kind=1 then⟨c.kind,GX i a % 2,dZ⟩else if c.kind=2 then⟨c.kind,GX i a,dZ⟩else if c.kind=3 then⟨c.kind,0,pY.extract 0 (GX i a % 9).toNat⟩else⟨c.kind,0,dZ⟩
def AU(bB:List jF)(a:Int)(m:Nat):List jd:=(List.range m).map λi=>mU (bB.getD i ⟨dZ,0,false⟩) i a
theorem iH{b:List jF}{a:Int}{x:jF}(hx:b[i]? =some x):AU b a (i+1)=AU b a i++[mU x i a]:=by unfold AU;rw[List.range_succ,jKH];simp[hx]
theorem bXP{U:List jF}{E:Nat}(q:Sl 202 bH h (.slice sb E sc) U)(hl:U.length<=2^20)(a:Int)(ha:-2^63<=a/\a<2^63)(hk:∀h' b n c,Le h h'->bt 45 bA h h' (.slice b n c) (AU U a U.length)->k (.slice b n c) h'):
 Ct 149 [.agg #[.string nm,.slice sb E sc,.int .i64 key,.bool only],.int .i64 a] h k:=by
 have aw:=q.len;refine cg eZZ Tryz.func149 λA hA=>?_;cbv;refine aX.go (G:=Int×Option Addr×Nat×Nat) (λg=>[(6,.v (.int .i64 g.1)),(5,.v (.slice g.2.1 g.2.2.1 g.2.2.2))]) (λ_=>[(2,[.string nm,.slice sb E sc,.int .i64 key,.bool only])])
  (λm g h'=>∃i,aZ g.1 i/\m=E-i/\i<=E/\Le h h'/\bt 45 bA h h' (.slice g.2.1 g.2.2.1 g.2.2.2) (AU U a i)) E (0,none,0,0) ⟨?_,?_,?_⟩ ⟨0,⟨rfl⟩,by omega,by omega,Le.refl _,bt.nil⟩ ?_
 .cbv
 .cbv
 .cbv
 intro m g h' hI;cbv;obtain⟨i,v,hm,hi,j,H⟩:=hI;obtain⟨z,b5,n5,c5⟩:=g;have v:aZ z i:=v;have H:bt 45 bA h h' (.slice b5 n5 c5) (AU U a i):=H;obtain⟨B,L⟩:∃B,B=AU U a i:=⟨_,rfl⟩;rw[<-L]at H;have aA:B.length=i:=by rw[L];unfold AU;simp
 have LU:n5=i:=by have:=H.sl.len;omega
 refine ba (λhc=>?_) (λhc=>?_)
 .have aU:=v.lt hc;clear hc;have dG:=v.eq;have jQ:=q.bound.1;have ON:=v.ix aU;obtain⟨⟨I,d,Z⟩,hx⟩:=cB U i;have Nm:A .aT .add .i64 1 (A .aT .mul .i64 3 z)=1+3*(i:Int):=by rw[hA.aT];simp only[aT];rw[IntWalk.i64_in (3*z) (by omega),IntWalk.i64_in _ (by omega)];omega
  have aq:¬A .aT .add .i64 1 (A .aT .mul .i64 3 z)=0:=by rw[Nm];omega
  have ao:A .aT .quo .i64 a (A .aT .add .i64 1 (A .aT .mul .i64 3 z))=a.tdiv (1+3*(i:Int)):=by
   rw[Nm,hA.aT];simp only[aT];have pX:(1:Int)+3*(i:Int)>0:=by omega
   generalize (1:Int)+3*(i:Int)=dd at pX;have iO:∀b:Int,0<=b->0<=b.tdiv dd/\b.tdiv dd<=b:=λb Tw=>by
    rw[kQz Tw];exact⟨Int.ediv_nonneg Tw (by omega),Int.ediv_le_self _ Tw⟩
   by_cases h0:0<=a
   .have:=iO a h0;rw[IntWalk.i64_in _ (by omega)]
   have:=iO (-a) (by omega);rw[Int.neg_tdiv]at this;rw[IntWalk.i64_in _ (by omega)]
  have Q:=q.mono (j.t _);cbv;refine⟨aq,?_⟩;cbv;refine nK _ 40 (n:=40) rfl (by decide) (by decide) h' (λT j1 ko al ax=>?_);cbv;refine⟨⟨Q.bp,ON⟩,?_⟩;cbv;refine Q.cu hx v.eq (o:=1) (m:=1) (by decide) (λcs D=>?_);have D:cs=[.string I,.int .i64 d,.bool Z]:=D;subst D;cbv;have Bv:∀T:Int,aZ T ((A .aT .quo .i64 a (A .aT .add .i64 1 (A .aT .mul .i64 3 z)) % ((40:Nat):Int)).toNat)->A .aT .sub .i64 T 5=GX i a:=λT ko=>by
   have:=ko.eq;rw[ao,show((40:Nat):Int)=40 from rfl]at this;have h1:=jKh (a.tdiv (1+3*(i:Int))) (show(40:Int)≠0 by decide);have h2:=jKG (a.tdiv (1+3*(i:Int))) (show(0:Int)<40 by decide);rw[hA.aT];simp only[aT];unfold GX;have h3:T=a.tdiv (1+3*(i:Int)) % 40:=by rw[this];exact Int.toNat_of_nonneg h1
   rw[IntWalk.i64_in _ (by omega)];omega
  have W:=Bv T (by rw[<-al];exact ko);generalize e1:A .aN .eql d 1=u1;generalize e2:A .aN .eql d 2=u2;generalize e3:A .aN .eql d 3=u3;have f2:=e2;have f3:=e3;cases u1 with
  |true=>
   have X:d=1:=by rw[au A]at e1;exact lA e1
   cbv;refine nK _ 2 (n:=2) rfl (by decide) (by decide) h' (λM j2 lN LW an=>?_);have XH:M=GX i a % 2:=by have:=lN.eq;rw[LW,W]at this;rw[this];exact Int.toNat_of_nonneg (jKh _ (by decide))
   cbv;refine⟨⟨Q.bp,ON⟩,?_⟩;cbv;refine Q.cu hx v.eq (o:=2) (m:=1) (by decide) (λcs D=>?_);have D:cs=[.string I,.int .i64 d,.bool Z]:=D;subst D;cbv;cases Z with
   |false=>
    cbv;intro C u t e;have l:Le h' u:=by rw[e];exact Le.set t
    have r:=(congrFun e C).trans ae;have V:mU ⟨I,d,false⟩ i a=⟨d,M,dZ⟩:=by simp[mU,X,XH]
    cbv;refine(H.mono (l.t _)).append (bf (s:=bA) r (x:=⟨d,M,dZ⟩) rfl) (by decide) rfl (by decide) (by omega) (j.trans l) (λy p c' O N w R P F=>?_);cbv;refine⟨E-(i+1),(_,p,y,c'),by omega,by constructor<;>cbv,i+1,v.succ (A:=A),rfl,by omega,w,?_⟩
    rw[iH hx,<-L,V];exact F
   |true=>
    cbv;refine nK a 5 (n:=5) rfl (by decide) (by decide) h' (λS j5 K J ab=>?_);have Y:S=a % 5:=by have:=K.eq;rw[J]at this;rw[this];exact Int.toNat_of_nonneg (jKh _ (by decide))
    cbv;generalize f:A .aN .eql S 0=u5;rw[au A]at f;cases u5 with
    |true=>
     have f:a % 5=0:=by rw[<-Y];exact lA f
     cbv;intro C u t e;have l:Le h' u:=by rw[e];exact Le.set t
     have r:=(congrFun e C).trans ae;have V:mU ⟨I,d,true⟩ i a=⟨0,0,dZ⟩:=by unfold mU;rw[if_pos ⟨rfl,f⟩]
     cbv;refine(H.mono (l.t _)).append (bf (s:=bA) r (x:=⟨0,0,dZ⟩) rfl) (by decide) rfl (by decide) (by omega) (j.trans l) (λy p c' O N w R P F=>?_);cbv;refine⟨E-(i+1),(_,p,y,c'),by omega,by constructor<;>cbv,i+1,v.succ (A:=A),rfl,by omega,w,?_⟩
     rw[iH hx,<-L,V];exact F
    |false=>
     have f:¬a % 5=0:=by rw[<-Y];exact kz f
     cbv;intro C u t e;have l:Le h' u:=by rw[e];exact Le.set t
     have r:=(congrFun e C).trans ae;have V:mU ⟨I,d,true⟩ i a=⟨d,M,dZ⟩:=by simp[mU,f,X,XH]
     cbv;refine(H.mono (l.t _)).append (bf (s:=bA) r (x:=⟨d,M,dZ⟩) rfl) (by decide) rfl (by decide) (by omega) (j.trans l) (λy p c' O N w R P F=>?_);cbv;refine⟨E-(i+1),(_,p,y,c'),by omega,by constructor<;>cbv,i+1,v.succ (A:=A),rfl,by omega,w,?_⟩
     rw[iH hx,<-L,V];exact F
  |false=>
   have X:¬d=1:=by rw[au A]at e1;exact kz e1
   cbv;rw[f2];cases u2 with
   |true=>
    have k2:d=2:=by rw[au A]at e2;exact lA e2
    cbv;refine⟨⟨Q.bp,ON⟩,?_⟩;cbv;refine Q.cu hx v.eq (o:=2) (m:=1) (by decide) (λcs D=>?_);have D:cs=[.string I,.int .i64 d,.bool Z]:=D;subst D;cbv;cases Z with
    |false=>
     cbv;intro C u t e;have l:Le h' u:=by rw[e];exact Le.set t
     have r:=(congrFun e C).trans ae;have V:mU ⟨I,d,false⟩ i a=⟨d,A .aT .sub .i64 T 5,dZ⟩:=by simp[mU,X,k2,W]
     cbv;refine(H.mono (l.t _)).append (bf (s:=bA) r (x:=⟨d,A .aT .sub .i64 T 5,dZ⟩) rfl) (by decide) rfl (by decide) (by omega) (j.trans l) (λy p c' O N w R P F=>?_);cbv;refine⟨E-(i+1),(_,p,y,c'),by omega,by constructor<;>cbv,i+1,v.succ (A:=A),rfl,by omega,w,?_⟩
     rw[iH hx,<-L,V];exact F
    |true=>
     cbv;refine nK a 5 (n:=5) rfl (by decide) (by decide) h' (λS j5 K J ab=>?_);have Y:S=a % 5:=by have:=K.eq;rw[J]at this;rw[this];exact Int.toNat_of_nonneg (jKh _ (by decide))
     cbv;generalize f:A .aN .eql S 0=u5;rw[au A]at f;cases u5 with
     |true=>
      have f:a % 5=0:=by rw[<-Y];exact lA f
      cbv;intro C u t e;have l:Le h' u:=by rw[e];exact Le.set t
      have r:=(congrFun e C).trans ae;have V:mU ⟨I,d,true⟩ i a=⟨0,0,dZ⟩:=by unfold mU;rw[if_pos ⟨rfl,f⟩]
      cbv;refine(H.mono (l.t _)).append (bf (s:=bA) r (x:=⟨0,0,dZ⟩) rfl) (by decide) rfl (by decide) (by omega) (j.trans l) (λy p c' O N w R P F=>?_);cbv;refine⟨E-(i+1),(_,p,y,c'),by omega,by constructor<;>cbv,i+1,v.succ (A:=A),rfl,by omega,w,?_⟩
      rw[iH hx,<-L,V];exact F
     |false=>
      have f:¬a % 5=0:=by rw[<-Y];exact kz f
      cbv;intro C u t e;have l:Le h' u:=by rw[e];exact Le.set t
      have r:=(congrFun e C).trans ae;have V:mU ⟨I,d,true⟩ i a=⟨d,A .aT .sub .i64 T 5,dZ⟩:=by simp[mU,f,X,k2,W]
      cbv;refine(H.mono (l.t _)).append (bf (s:=bA) r (x:=⟨d,A .aT .sub .i64 T 5,dZ⟩) rfl) (by decide) rfl (by decide) (by omega) (j.trans l) (λy p c' O N w R P F=>?_);cbv;refine⟨E-(i+1),(_,p,y,c'),by omega,by constructor<;>cbv,i+1,v.succ (A:=A),rfl,by omega,w,?_⟩
      rw[iH hx,<-L,V];exact F
   |false=>
    have k2:¬d=2:=by rw[au A]at e2;exact kz e2
    cbv;rw[f3];cases u3 with
    |true=>
     have k3:d=3:=by rw[au A]at e3;exact lA e3
     cbv;refine nK _ 9 (n:=9) rfl (by decide) (by decide) h' (λM j2 lN LW an=>?_);have ag:A .sub pY 0 M=pY.extract 0 (GX i a % 9).toNat:=by have:=lN.eq;rw[LW,W]at this;rw[hA.sub];show pY.extract (0:Int).toNat M.toNat=_;rw[this];rfl
     have oC:0<=M/\M<=26:=by have:=lN.eq;omega
     cbv;refine⟨oC,?_⟩;cbv;refine⟨⟨Q.bp,ON⟩,?_⟩;cbv;refine Q.cu hx v.eq (o:=2) (m:=1) (by decide) (λcs D=>?_);have D:cs=[.string I,.int .i64 d,.bool Z]:=D;subst D;cbv;cases Z with
     |false=>
      cbv;intro C u t e;have l:Le h' u:=by rw[e];exact Le.set t
      have r:=(congrFun e C).trans ae;have V:mU ⟨I,d,false⟩ i a=⟨d,0,A .sub pY 0 M⟩:=by simp[mU,X,k2,k3,ag]
      cbv;refine(H.mono (l.t _)).append (bf (s:=bA) r (x:=⟨d,0,A .sub pY 0 M⟩) rfl) (by decide) rfl (by decide) (by omega) (j.trans l) (λy p c' O N w R P F=>?_);cbv;refine⟨E-(i+1),(_,p,y,c'),by omega,by constructor<;>cbv,i+1,v.succ (A:=A),rfl,by omega,w,?_⟩
      rw[iH hx,<-L,V];exact F
     |true=>
      cbv;refine nK a 5 (n:=5) rfl (by decide) (by decide) h' (λS j5 K J ab=>?_);have Y:S=a % 5:=by have:=K.eq;rw[J]at this;rw[this];exact Int.toNat_of_nonneg (jKh _ (by decide))
      cbv;generalize f:A .aN .eql S 0=u5;rw[au A]at f;cases u5 with
      |true=>
       have f:a % 5=0:=by rw[<-Y];exact lA f
       cbv;intro C u t e;have l:Le h' u:=by rw[e];exact Le.set t
       have r:=(congrFun e C).trans ae;have V:mU ⟨I,d,true⟩ i a=⟨0,0,dZ⟩:=by unfold mU;rw[if_pos ⟨rfl,f⟩]
       cbv;refine(H.mono (l.t _)).append (bf (s:=bA) r (x:=⟨0,0,dZ⟩) rfl) (by decide) rfl (by decide) (by omega) (j.trans l) (λy p c' O N w R P F=>?_);cbv;refine⟨E-(i+1),(_,p,y,c'),by omega,by constructor<;>cbv,i+1,v.succ (A:=A),rfl,by omega,w,?_⟩
       rw[iH hx,<-L,V];exact F
      |false=>
       have f:¬a % 5=0:=by rw[<-Y];exact kz f
       cbv;intro C u t e;have l:Le h' u:=by rw[e];exact Le.set t
       have r:=(congrFun e C).trans ae;have V:mU ⟨I,d,true⟩ i a=⟨d,0,A .sub pY 0 M⟩:=by simp[mU,f,X,k2,k3,ag]
       cbv;refine(H.mono (l.t _)).append (bf (s:=bA) r (x:=⟨d,0,A .sub pY 0 M⟩) rfl) (by decide) rfl (by decide) (by omega) (j.trans l) (λy p c' O N w R P F=>?_);cbv;refine⟨E-(i+1),(_,p,y,c'),by omega,by constructor<;>cbv,i+1,v.succ (A:=A),rfl,by omega,w,?_⟩
       rw[iH hx,<-L,V];exact F
    |false=>
     have k3:¬d=3:=by rw[au A]at e3;exact kz e3
     cbv;refine⟨⟨Q.bp,ON⟩,?_⟩;cbv;refine Q.cu hx v.eq (o:=2) (m:=1) (by decide) (λcs D=>?_);have D:cs=[.string I,.int .i64 d,.bool Z]:=D;subst D;cbv;cases Z with
     |false=>
      cbv;intro C u t e;have l:Le h' u:=by rw[e];exact Le.set t
      have r:=(congrFun e C).trans ae;have V:mU ⟨I,d,false⟩ i a=⟨d,0,dZ⟩:=by simp[mU,X,k2,k3]
      cbv;refine(H.mono (l.t _)).append (bf (s:=bA) r (x:=⟨d,0,dZ⟩) rfl) (by decide) rfl (by decide) (by omega) (j.trans l) (λy p c' O N w R P F=>?_);cbv;refine⟨E-(i+1),(_,p,y,c'),by omega,by constructor<;>cbv,i+1,v.succ (A:=A),rfl,by omega,w,?_⟩
      rw[iH hx,<-L,V];exact F
     |true=>
      cbv;refine nK a 5 (n:=5) rfl (by decide) (by decide) h' (λS j5 K J ab=>?_);have Y:S=a % 5:=by have:=K.eq;rw[J]at this;rw[this];exact Int.toNat_of_nonneg (jKh _ (by decide))
      cbv;generalize f:A .aN .eql S 0=u5;rw[au A]at f;cases u5 with
      |true=>
       have f:a % 5=0:=by rw[<-Y];exact lA f
       cbv;intro C u t e;have l:Le h' u:=by rw[e];exact Le.set t
       have r:=(congrFun e C).trans ae;have V:mU ⟨I,d,true⟩ i a=⟨0,0,dZ⟩:=by unfold mU;rw[if_pos ⟨rfl,f⟩]
       cbv;refine(H.mono (l.t _)).append (bf (s:=bA) r (x:=⟨0,0,dZ⟩) rfl) (by decide) rfl (by decide) (by omega) (j.trans l) (λy p c' O N w R P F=>?_);cbv;refine⟨E-(i+1),(_,p,y,c'),by omega,by constructor<;>cbv,i+1,v.succ (A:=A),rfl,by omega,w,?_⟩
       rw[iH hx,<-L,V];exact F
      |false=>
       have f:¬a % 5=0:=by rw[<-Y];exact kz f
       cbv;intro C u t e;have l:Le h' u:=by rw[e];exact Le.set t
       have r:=(congrFun e C).trans ae;have V:mU ⟨I,d,true⟩ i a=⟨d,0,dZ⟩:=by simp[mU,f,X,k2,k3]
       cbv;refine(H.mono (l.t _)).append (bf (s:=bA) r (x:=⟨d,0,dZ⟩) rfl) (by decide) rfl (by decide) (by omega) (j.trans l) (λy p c' O N w R P F=>?_);cbv;refine⟨E-(i+1),(_,p,y,c'),by omega,by constructor<;>cbv,i+1,v.succ (A:=A),rfl,by omega,w,?_⟩
       rw[iH hx,<-L,V];exact F
 have lJ:=v.ge hc;clear hc;have vZ:i=E:=by omega
 have lq:Le h h':=j;have ay:=hk h' b5 n5 c5 lq (by rw[show U.length=i by omega,<-L];exact H);cbv;exact ay
end Go.S
