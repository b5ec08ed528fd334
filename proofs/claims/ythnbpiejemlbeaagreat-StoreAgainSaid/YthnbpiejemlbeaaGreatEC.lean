import Derived.Test.YthnbpiejemlbeaaGreatEB
set_option linter.all false
set_option maxRecDepth 100000
set_option maxHeartbeats 8000000
namespace Go.S
open Go.Sx Go.Proofs
variable {only:Bool}{nm s:ByteArray}{d:DB}{D:DB×Int}{key z:Int}{cols:List jR}{c i j n o sc:Nat}{b sb:Option Addr}{k:Value->ad->Prop}{h h':ad}
def cf(W:List eJ)(s:Int):List Int:=W.map λx=>IntKind.i64.wrap (x.s-s)
def FO(d:DB)(hd:bZ):Bool:=iC (cf d.ai hd.s)&&iC (aU d.ao hd.table)
structure Small(d:DB):Prop where
 ao:d.ao.length<=2^37
 ai:d.ai.length<=2^37
 rows:∀t∈d.ao,t.rows.length<=2^37
 holds:d.holds.length<2^18
 waits:d.waits.length<2^18
def bP(d:DB)(s:rM):DB×Int:=fJ d s (dE (aU d.ao s.name)) (iC (aU d.ao s.name))
def iP(d:DB)(s:Int):DB×Int:=jl d s (dE (cf d.ai s)) (iC (cf d.ai s))
abbrev WM(h:ad)(d':DB)(e:Int)(k:Value->ad->Prop):Prop:=
 ∀h' b1 n1 c1 b2 n2 c2 b3 n3 c3 b4 n4 c4,Le h h'->fD h' (.agg #[.slice b1 n1 c1,.slice b2 n2 c2,.slice b3 n3 c3,.slice b4 n4 c4]) d'->k (.tuple #[.agg #[.slice b1 n1 c1,.slice b2 n2 c2,.slice b3 n3 c3,.slice b4 n4 c4],.zI e]) h'
theorem Ki(a:bg z i)(b:bg z j):i=j:=by have:=a.eq;have:=b.eq;omega
theorem Dh{v:Value}(q:fD h v d){s:Option Addr}(r:Sl 202 bJ h (.slice s n c) cols)(m:Small d)(f:bP d ⟨nm,cols,key,only⟩=D)
  (F:WM h D.1 D.2 k):Ct 91 [v,.agg #[.string nm,.slice s n c,.zI key,.bool only]] h k:=
 (aQL q r m.ao m.ai).mono (λv h' hR=>by
  obtain⟨M,e,z,i,is,G,l,hd,j,p,g⟩:=hR;obtain⟨a,b⟩:=g.at_;have o:=Ki p a;have K:fJ d ⟨nm,cols,key,only⟩ i is=D:=by rw[<-f,o,b];rfl
  rw[K]at hd j;obtain⟨t,H,y,u,I,A,w,J,B,x,L,C,E⟩:=hd.form
  grind)
theorem aXi{v:Value}(q:fD h v d)(s:Int)(n:Small d)(c:iP d s=D)(B:WM h D.1 D.2 k):Ct 12 [v,.zI s] h k:=
 (bQN q s n.ai).mono (λv h' hR=>by
  obtain⟨I,e,z,i,is,C,l,hd,g,m,f⟩:=hR;obtain⟨a,b⟩:=f.at_;have j:=Ki m a;have K:jl d s i is=D:=by rw[<-c,j,b];rfl
  rw[K]at hd g;obtain⟨o,E,u,p,F,w,r,G,x,t,H,y,A⟩:=hd.form
  grind)
def fZr:DB:=⟨[],[],[],[]⟩
def nA:ByteArray:=⟨#[97]⟩
theorem gQx(h:ad):fD h (.agg #[.zN,.zN,.zN,.zN]) fZr:=
 ⟨_,_,_,_,_,_,_,_,_,_,_,_,[],rfl,Sl.nil,Sl.nil,Sl.nil,Sl.nil,rfl⟩
theorem Az(a:Int)(n:Nat)(o:0<n)(l:n<=2^40)(h:ad)(g:∀z i,bg z i->i=(a % (n:Int)).toNat->i<n->k (.zI z) h):Ct 148 [.zI a,.zI (n:Int)] h k:=by
 obtain⟨A,b⟩:=Ar.ex;obtain⟨m,j⟩:∃m:Int,m=(n:Int):=⟨_,rfl⟩;rw[<-j];have E:m≠0:=ip
 have B:A .aX .rem .i64 a m=a.tmod m:=by rw[b.aX];rfl
 have G:a.tmod m<m:=by have:=kXs a (show 0<m by omega);omega
 have Q:-m<a.tmod m:=by have:=kQO a (show 0<m by omega);omega
 have x:a % m=if a.tmod m<0 then a.tmod m+m else a.tmod m:=by
  rw[kXG];have c:=kKb a E;have d:=kKa a (show 0<m by omega)
  grind
 generalize p:a.tmod m=t at *;generalize e:A .aQ .lss t 0=u;have f:=e;rw[aV A]at e;have key:∀z:Int,z=a % m->k (.zI z) h:=λz r=>by
  have c:=kKb a E;have d:=kKa a (show 0<m by omega);refine g z (a % (n:Int)).toNat ⟨?_⟩ rfl ?_
  .grind
  grind
 have I:t<0->A .aX .add .i64 t m=t+m:=λh=>by
  rw[b.aX];simp only[aX];rw[IntWalk.i64_in _ ip]
 refine kh bXk A Tryz.func148 ?_;cbv;refine⟨E,?_⟩;cbv;rw[B];rw[f];cases u with
 |true=>
  have q:=kZr e;have s:=key (t+m) (by rw[x,if_pos q]);cbv
  grind
 |false=>have q:=kZX e;have s:=key t (by rw[x,if_neg q]);cbv;exact s
def JL:List ByteArray:=[⟨#[116,97]⟩,⟨#[116,98]⟩,⟨#[116,99]⟩]
def bI:List jR:=[⟨nA,2,false⟩,⟨⟨#[98]⟩,3,true⟩]
def aS(t:Nat):rM:=⟨(JL[t]?).getD jx,bI,0,decide (t=2)⟩
theorem AL{t:Nat}(f:bg z t)(l:t<3)(h:ad)
 (C:∀h' b n c nm o,Le h h'->nm=(aS t).name->o=(aS t).only->Sl 202 bJ h' (.slice b n c) bI->k (.agg #[.string nm,.slice b n c,.zI 0,.bool o]) h'):Ct 92 [.zI z] h k:=by
 obtain⟨A,F⟩:=Ar.ex;obtain⟨x,hx⟩:=ay (xs:=JL) (i:=t) l;have U:x=(aS t).name:=by unfold aS;rw[hx];rfl
 have H:A .aQ .eql z 2=decide (t=2):=by rw[au A,decide_eq_decide];have:=f.eq;omega
 have L:(0:Int)<=z/\z<((3:Nat):Int):=f.ix l;refine kh iQf A Tryz.func92 ?_;cbv;intro p d G e1;have D:Le h d:=zqs e1 G
 have v:=zqt e1;have s1:Sl 202 bJ d (.slice (zsA p) 2 2) bI:=by
  refine Sl.fresh (xs:=bI) v ⟨by simp[bI,bJ],λj y a=>?_⟩ (by simp[bI]) (by simp[bI])
  match j,a with
  |0,a=>simp[bI]at a;subst a;rfl
  |1,a=>simp[bI]at a;subst a;rfl
  |j+2,a=>simp[bI]at a
 cbv;intro q e u g;have m:Le d e:=zqs g u
 have B:=zqt g;have s2:Sl 9 ma e (.slice (zsA q) 3 3) JL:=gT (s:=ma) rfl B (x:=⟨#[116,97]⟩) (y:=⟨#[116,98]⟩) (w:=⟨#[116,99]⟩) rfl rfl rfl;cbv;refine⟨⟨rfl,L⟩,?_⟩;cbv;refine s2.load hx f.eq (λcs r=>?_);have r:cs=[.string x]:=r;subst r;have E:=C e _ _ _ x (decide (t=2)) (D.trans m) U rfl (s1.mono (m.t _));cbv
 grind
theorem aJV(h:ad):Ct 348 [] h (λv h'=>Le h h'/\∃c,v=.slice (zsA c) 41 41/\Sl 9 ma h' v jF):=by
 refine cB eXd Tryz.func348 λA d=>?_;cbv;intro n a b e1;have g:a n=zcL 9 (jF.map Value.string):=by rw[e1];exact ae
 have r:Sx.Rows ma a (jF.map Value.string) 0 jF:=by
  refine⟨dl,λi x hx=>?_⟩;have Z:=(HH.1 hx).1;show List.take 1 (List.drop (0+i*1) _)=_;rw[kJe,vi,kQP (iu Z)]
  grind
 have s:Sl 9 ma a (.slice (zsA n) 41 41) jF:=Sl.fresh (xs:=jF) g r dl dl;have hl:Le h a:=zqs e1 b
 clear g r e1;cbv;exact⟨hl,n,rfl,s⟩
theorem Kb:Ct 281 [.string s] h (λv h'=>Le h h'/\∃t,v=.bool t/\t=gZ s):=by
 refine cB eZk Tryz.func281 λA l=>?_;have r:A .lW s=(s.size:Int):=by rw[l.lW]
 have P:bg (A .lW s) s.size:=⟨r⟩;have L:∀z i,bg z i->A .byte s z=ji s i:=λz i a=>by
  rw[l.byte];simp only[ji];rw[a.eq];rfl
 generalize e1:A .aQ .lss (A .lW s) 1=t1;generalize d:A .aQ .gtr (A .lW s) 12=t2;generalize f:A .aQ .lss (A .byte s 0) 97=t3;generalize g:A .aQ .gtr (A .byte s 0) 122=t4;have M:t2=false->s.size<=12:=λe=>by
  rw[e,l.aQ,r]at d;have:=kZX d;omega
 have m:DA s= !(t1||t2||t3||t4):=by rw[<-e1,<-d,<-f,<-g,L 0 0 ⟨rfl⟩,r,l.aQ];rfl
 have K:t1=false->(0:Int)<=0/\0<(s.size:Int):=λe=>by
  rw[e,l.aQ,r]at e1;have:=kZX e1;omega
 have F:∀(t:Bool) (b:Bool),t=false->DA s=false->t=gZ s:=λt b ht hq=>by rw[ht,gZ,hq];rfl
 have R:∀(t:Bool),t=true->t=t:=λ_ _=>rfl;cbv;rw[e1];cases t1 with
 |true=>cbv;exact⟨Le.refl _,false,rfl,F _ true rfl m⟩
 |false=>
  have E:=K rfl;cbv;rw[d];cases t2 with
  |true=>cbv;exact⟨Le.refl _,false,rfl,F _ true rfl m⟩
  |false=>
   cbv;refine⟨E,?_⟩;cbv;rw[f];cases t3 with
   |true=>cbv;exact⟨Le.refl _,false,rfl,F _ true rfl m⟩
   |false=>
    cbv;refine⟨E,?_⟩;cbv;rw[g];cases t4 with
    |true=>cbv;exact⟨Le.refl _,false,rfl,F _ true rfl m⟩
    |false=>
     cbv;have Z:DA s=true:=m;have M:=M rfl;clear m e1 d f g K F R;refine ba.gz (G:=Int) (λz=>[(3,.v (.zI z))]) (λ_=>[]) (λn z h'=>∃i:Nat,bg z i/\n=s.size-i/\i<=s.size/\h'=h/\∀j,j<i->FP (ji s j)=true) s.size 0 ⟨0,⟨rfl⟩,rfl,ip,rfl,λj q=>ip⟩ ?_
     intro n z h' X;cbv;obtain⟨i,a,S,I,rfl,bR⟩:=X;refine bm (λc=>?_) (λc=>?_)
     .rw[a.zQ (A:=A) P]at c;have T:=kZr c;clear c;cbv;refine⟨a.ix T,?_⟩;cbv;rw[L z i a];generalize hw:ji s i=w;generalize e1:A .aQ .lss w 97=t1;generalize d:A .aQ .gtr w 122=t2;generalize f:A .aQ .lss w 48=t3;generalize g:A .aQ .gtr w 57=t4;generalize o:A .aQ .neq w 95=t5;have D:FP w= !((t1||t2)&&(t3||t4)&&t5):=by rw[<-e1,<-d,<-f,<-g,<-o,l.aQ];rfl
      have V:FP w=false->gZ s=false:=λe=>by
       grind [AW,gZ]
      have k:FP w=true->∀j,j<i+1->FP (ji s j)=true:=λe j q=>by
       grind
      cbv;cases t1 with
      |true=>
       cbv;rw[f];cases t3 with
       |true=>
        cbv;rw[o];cases t5 with
        |true=>
         cbv
         grind
        |false=>cbv;exact zqn (s.size-(i+1)) _ ip ⟨i+1,a.succ (A:=A),rfl,ip,rfl,k (by rw[D];rfl)⟩
       |false=>
        cbv;rw[g];cases t4 with
        |true=>
         cbv;rw[o];cases t5 with
         |true=>
          cbv
          grind
         |false=>cbv;exact zqn (s.size-(i+1)) _ ip ⟨i+1,a.succ (A:=A),rfl,ip,rfl,k (by rw[D];rfl)⟩
        |false=>cbv;exact zqn (s.size-(i+1)) _ ip ⟨i+1,a.succ (A:=A),rfl,ip,rfl,k (by rw[D];rfl)⟩
      |false=>
       cbv;rw[d];cases t2 with
       |true=>
        cbv;rw[f];cases t3 with
        |true=>
         cbv;rw[o];cases t5 with
         |true=>
          cbv
          grind
         |false=>cbv;exact zqn (s.size-(i+1)) _ ip ⟨i+1,a.succ (A:=A),rfl,ip,rfl,k (by rw[D];rfl)⟩
        |false=>
         cbv;rw[g];cases t4 with
         |true=>
          cbv;rw[o];cases t5 with
          |true=>
           cbv
           grind
          |false=>cbv;exact zqn (s.size-(i+1)) _ ip ⟨i+1,a.succ (A:=A),rfl,ip,rfl,k (by rw[D];rfl)⟩
         |false=>cbv;exact zqn (s.size-(i+1)) _ ip ⟨i+1,a.succ (A:=A),rfl,ip,rfl,k (by rw[D];rfl)⟩
       |false=>cbv;exact zqn (s.size-(i+1)) _ ip ⟨i+1,a.succ (A:=A),rfl,ip,rfl,k (by rw[D];rfl)⟩
     rw[a.zQ (A:=A) P]at c;have mw:=kZX c;cbv;have Q:AW s=true:=by
      grind [AW]
     refine(aJV h').mono (λv W hR=>?_);obtain⟨J,nb,rfl,ql⟩:=hR;cbv;refine ba.gz (G:=Int) (λz=>[(6,.v (.zI z))]) (λ_=>[]) (λn z H=>∃i:Nat,bg z i/\n=41-i/\i<=41/\H=W/\∀j,j<i->∀y,jF[j]? =some y->y≠s) 41 0 ⟨0,⟨rfl⟩,ip,ip,rfl,λj q=>ip⟩ ?_
     intro n2 z2 H kL;cbv;obtain⟨B,p,fA,ZZ,rfl,U⟩:=kL;refine bm (λc=>?_) (λc=>?_)
     .have O:=p.lt c;clear c;cbv;obtain⟨x,hx⟩:=ay (xs:=jF) (i:=B) O;refine⟨⟨rfl,p.ix O⟩,?_⟩;cbv;refine ql.load hx p.eq (λcs u=>?_);have u:cs=[.string x]:=u;subst u;cbv;rw[eV A];by_cases C:x=s
      .rw[kS C];have N:uJ s=true:=uI.2 gg;cbv;exact⟨J,false,rfl,by rw[gZ,N];simp⟩
      rw[kQW C];cbv;refine zqn (41-(B+1)) _ ip ⟨B+1,p.succ (A:=A),rfl,ip,rfl,?_⟩
      grind
     have ab:=p.ge c;have N:uJ s=false:=by
      cases I:uJ s with
      |false=>rfl
      |true=>
       have Y:=uI.1 I;obtain⟨j,q⟩:=kXT Y;have pE:j<41:=(HH.1 q).1
       grind
     cbv;exact⟨J,true,rfl,by rw[gZ,Z,Q,N];rfl⟩
theorem bQi(q:Sl 202 bJ h (.slice b n c) cols){k:Int}:
 Ct 308 [.agg #[.string nm,.slice b n c,.zI k,.bool only],.string s] h (λv h'=>Le h h'/\∃z t e,v=.tuple #[.zI z,.bool t]/\uV cols (λx=>decide (x.name=s)) e/\z=max e 0/\t=decide (e>=0)):=by
 have l:=q.len;obtain⟨B,Q⟩:=q.bound;refine cB eXL Tryz.func308 λA p=>?_;cbv;refine ba.gz (G:=Int) (λz=>[(6,.v (.zI z))]) (λ_=>[(2,[.string nm,.slice b n c,.zI k,.bool only])]) (λm z h'=>∃i:Nat,bg z i/\m=n-i/\i<=n/\h'=h/\∀j,j<i->∀y,cols[j]? =some y->decide (y.name=s)=false) n 0 ⟨0,⟨rfl⟩,ip,ip,rfl,λj f=>ip⟩ ?_
 intro m z h' I;cbv;obtain⟨i,a,w,u,rfl,R⟩:=I;refine bm (λd=>?_) (λd=>?_)
 .have Z:=a.lt d;clear d;cbv;obtain⟨x,hx⟩:=cK cols i;refine⟨⟨q.bu,a.ix Z⟩,?_⟩;cbv;refine q.cI hx a.eq (o:=0) (m:=1) dl (λcs r=>?_);have r:cs=[.string x.name,.zI x.kind,.bool x.null]:=r;subst r;cbv;rw[eV A];by_cases C:x.name=s
  .rw[kS C];have hR:uV cols (λx=>decide (x.name=s)) z:=⟨.inr ⟨i,x,a,hx,iu C,R⟩⟩;have Y:=a.eq;have e1:z=max z 0:=ip
   have g:true=decide (z>=0):=gg
   cbv
   grind
  rw[kQW C];cbv;refine zqn (n-(i+1)) _ ip ⟨i+1,a.succ (A:=A),rfl,ip,rfl,?_⟩
  grind
 have D:=a.ge d;have hR:uV cols (λx=>decide (x.name=s)) (-1):=⟨.inl ⟨rfl,λx hx=>by
  obtain⟨j,f⟩:=kXT hx
  grind⟩⟩
 cbv
 grind
theorem cQJ{c:jR}(b:cols[i]? =some c)(r:uV cols (λx=>decide (x.name=c.name)) z):
 decide (max z 0≠(i:Int))=(cols.take i).any λx=>decide (x.name=c.name):=by
 have a:=Zf b r;rw[<-a,decide_eq_decide];rcases r.out with⟨-,h⟩|⟨k,x,d,hx,p,R⟩
 .grind
 have e:=d.eq
 grind
theorem Hc(q:Sl 202 bJ h (.slice b n c) cols):
 Ct 212 [.agg #[.string nm,.slice b n c,.zI key,.bool only]] h (λv h'=>Le h h'/\∃z,v=.zI z/\z=ey ⟨nm,cols,key,only⟩):=by
 obtain⟨A,B⟩:=Ar.ex;have C:=q.len;obtain⟨lG,gQ⟩:=q.bound;have W:A .not true=false:=by rw[B.not];rfl
 have sA:A .not false=true:=by rw[B.not];rfl
 generalize e1:A .aQ .lss (A .nat n) 1=u1;generalize s:A .aQ .gtr (A .nat n) 6=u2;generalize I:A .aQ .lss key 0=u3;generalize u:A .aQ .geq key (A .nat n)=Q;have f1:=e1;have f2:=s;have R:=I;have T:=u;rw[aV A,B.nat]at e1;rw[bF A,B.nat]at s;rw[aV A]at I;rw[cF A,B.nat]at u;simp only[kZn]at e1 s u;rw[C]at e1 s u;obtain⟨E,X⟩:∃E,E=ey ⟨nm,cols,key,only⟩:=⟨_,rfl⟩;have S:E=if(!gZ nm)=true then 12 else if(u1||u2)=true then 4 else if lI cols≠0 then lI cols else if(u3||Q)=true then 1 else if((cols[key.toNat]?).map (·.null)).getD false=true then 13 else 0:=by rw[X,<-e1,<-s,<-I,<-u];rfl
 rw[<-X];refine kh eJs A Tryz.func212 ?_;cbv;refine Kb.mono (λv h1 hR=>?_);obtain⟨H,t,rfl,ht⟩:=hR;rw[<-ht]at S;cases t with
 |false=>cbv;rw[sA];cbv;exact⟨H,12,rfl,S.symm⟩
 |true=>
  cbv;rw[W];cbv;rw[f1];cases u1 with
  |true=>cbv;exact⟨H,4,rfl,S.symm⟩
  |false=>
   cbv;rw[f2];cases u2 with
   |true=>cbv;exact⟨H,4,rfl,S.symm⟩
   |false=>
    have S:E=if lI cols≠0 then lI cols else if(u3||Q)=true then 1 else if((cols[key.toNat]?).map (·.null)).getD false=true then 13 else 0:=S
    cbv;refine ba.gz (G:=Int) (λz=>[(3,.v (.zI z))]) (λ_=>[(1,[.string nm,.slice b n c,.zI key,.bool only])]) (λm z h'=>∃i:Nat,bg z i/\m=n-i/\i<=n/\Le h h'/\∀j,j<i->∀y,cols[j]? =some y->ig cols j y=0) n 0 ⟨0,⟨rfl⟩,ip,ip,H,λj hj=>ip⟩ ?_
    intro m z h' hI;cbv;obtain⟨i,r,hm,hi,e,bR⟩:=hI;refine bm (λF=>?_) (λF=>?_)
    .have aZ:=r.lt F;clear F;obtain⟨x,hx⟩:=cK cols i;have L:b.isSome=true/\0<=z/\z<(n:Int):=⟨q.bu,r.ix aZ⟩;have p:∀ {Y:ad} (w:Int),Le h Y->ig cols i x=w->w≠0->Le h Y/\∃z,Value.zI w=.zI z/\z=E:=λw l ew hw=>by
      grind [GU,hx]
     have ja:∀(D:ad),Le h D->ig cols i x=0->∃j:Nat,bg (A .aX .add .i64 z 1) j/\n-(i+1)=n-j/\j<=n/\Le h D/\∀P,P<j->∀y,cols[P]? =some y->ig cols P y=0:=λD l e0=>
      ⟨i+1,r.succ (A:=A),rfl,ip,l,λj hj y hy=>by
       grind⟩
     obtain⟨f,k,d⟩:=x;cbv;refine⟨L,?_⟩;cbv;refine(q.mono (e.t _)).cI hx r.eq (o:=0) (m:=1) dl (λcs a=>?_);have a:cs=[.string f,.zI k,.bool d]:=a;subst a;cbv;refine(bQi (q.mono (e.t _))).mono (λv D hR=>?_);obtain⟨l2,zk,tk,ab,rfl,jr,HE,OL⟩:=hR;have J:=e.trans l2;have V:=cQJ hx jr;rw[<-HE]at V;generalize K:A .aQ .neq zk z=w1;have k1:=K;rw[aJ A,r.eq]at K;rw[K]at V;generalize N:A .aQ .lss k 1=w2;generalize O:A .aQ .gtr k 3=w3;have k2:=N;have k3:=O;rw[aV A]at N;rw[bF A]at O;cbv;refine⟨L,?_⟩;cbv;refine(q.mono (J.t _)).cI hx r.eq (o:=0) (m:=1) dl (λcs a=>?_);have a:cs=[.string f,.zI k,.bool d]:=a;subst a;cbv;refine Kb.mono (λv h3 hR=>?_);obtain⟨l3,tn,rfl,MP⟩:=hR;have M:=J.trans l3;have key:ig cols i ⟨f,k,d⟩=if(!tn||w1)=true then 12 else if(w2||w3)=true then 3 else 0:=by rw[MP,V,<-N,<-O];rfl
     cases tn with
     |false=>have key:ig cols i ⟨f,k,d⟩=12:=key;cbv;rw[sA];cbv;exact p 12 M key ip
     |true=>
      cbv;rw[W];cbv;rw[k1];cases w1 with
      |true=>have key:ig cols i ⟨f,k,d⟩=12:=key;cbv;exact p 12 M key ip
      |false=>
       cbv;refine⟨L,?_⟩;cbv;refine(q.mono (M.t _)).cI hx r.eq (o:=1) (m:=1) dl (λcs a=>?_);have a:cs=[.string f,.zI k,.bool d]:=a;subst a;cbv;rw[k2];cases w2 with
       |true=>have key:ig cols i ⟨f,k,d⟩=3:=key;cbv;exact p 3 M key ip
       |false=>
        cbv;refine⟨L,?_⟩;cbv;refine(q.mono (M.t _)).cI hx r.eq (o:=1) (m:=1) dl (λcs a=>?_);have a:cs=[.string f,.zI k,.bool d]:=a;subst a;cbv;rw[k3];cases w3 with
        |true=>have key:ig cols i ⟨f,k,d⟩=3:=key;cbv;exact p 3 M key ip
        |false=>
         have key:ig cols i ⟨f,k,d⟩=0:=key;have g:=ja h3 M key;cbv;refine zqn (n-(i+1)) _ ip g
    have mw:=r.ge F;have Z:lI cols=0:=BI (λj hj y hy=>bR j ip y hy);rw[Z,if_neg io]at S;cbv;rw[R];cases u3 with
    |true=>cbv;exact⟨e,1,rfl,S.symm⟩
    |false=>
     cbv;rw[T];cases Q with
     |true=>cbv;exact⟨e,1,rfl,S.symm⟩
     |false=>
      obtain⟨U,sU⟩:=PG A R T;obtain⟨x,hx⟩:=cK cols key.toNat;have L:b.isSome=true/\0<=key/\key<(n:Int):=⟨q.bu,U.ix sU⟩;rw[hx]at S;obtain⟨f,k,d⟩:=x;cbv;refine⟨L,?_⟩;cbv;refine(q.mono (e.t _)).cI hx U.eq (o:=2) (m:=1) dl (λcs a=>?_);have a:cs=[.string f,.zI k,.bool d]:=a;subst a;cases d with
      |true=>cbv;exact⟨e,13,rfl,S.symm⟩
      |false=>cbv;exact⟨e,0,rfl,S.symm⟩
def ke:Sh eJ where
 n:=3
 R h cs t:=∃b1 n1 c1 b2 n2 c2,cs=[.zI t.s,.slice b1 n1 c1,.slice b2 n2 c2]/\Sl 161 bD h (.slice b1 n1 c1) t.log/\Sl 340 dw h (.slice b2 n2 c2) t.marks
 len:=gg
 one:=by rintro h cs x ⟨_,_,_,_,_,_,rfl,-⟩;rfl
 tys:=[161,45,340]
 mono:=by rintro h h' cs x hl ⟨b1,n1,c1,b2,n2,c2,rfl,q1,q2⟩;exact⟨b1,n1,c1,b2,n2,c2,rfl,q1.mono (hl.sub),q2.mono (hl.sub)⟩
structure RP(h:ad)(b1:Option Addr)(n1 c1:Nat)(b2:Option Addr)(n2 c2:Nat)(b3:Option Addr)(n3 c3:Nat)(b4:Option Addr)(n4 c4:Nat)(d:DB):Prop where
 ao:Sl 132 bT h (.slice b1 n1 c1) d.ao
 ai:Sl 337 ke h (.slice b2 n2 c2) d.ai
 holds:Sl 422 bC h (.slice b3 n3 c3) d.holds
 waits:Sl 422 bC h (.slice b4 n4 c4) d.waits
theorem RP.lt{a c e:Option Addr}{f k g m:Nat}(q:RP h b n f a k g c m i e o j d)(l:cX [132,202,46,45,337,161,340,422] h h'):RP h' b n f a k g c m i e o j d:=
 ⟨q.ao.mono (l.sub),q.ai.mono (l.sub),q.holds.mono (l.sub),q.waits.mono (l.sub)⟩
theorem RP.mono{a c e:Option Addr}{f k g m:Nat}(q:RP h b n f a k g c m i e o j d)(l:Le h h'):RP h' b n f a k g c m i e o j d:=q.lt (l.t _)
theorem GV{a b:List UInt8}:∀ {i:Nat},i<=a.length->i<=b.length->(∀j,j<i->a[j]? =b[j]?)->Lib.compareBytes a b=Lib.compareBytes (a.drop i) (b.drop i)
 |0,_,_,_=>rfl
 |i+1,h,c,R=>by
  cases a with
  |nil=>simp at h
  |cons x a=>
   cases b with
   |nil=>simp at c
   |cons y b=>
    have h0:x=y:=by have:=R 0 ip;grind
    subst h0;have:Lib.compareBytes (x::a) (x::b)=Lib.compareBytes a b:=by simp[Lib.compareBytes]
    rw[this,bB,bB];exact GV (iu h) (iu c) (λj d=>gg)
theorem aXg{a b:ByteArray}(P:a.size<=2^60):Ct 214 [.string a,.string b] h (λv h'=>Le h h'/\∃t,v=.bool t/\t=decide (dy a b<0)):=by
 obtain⟨A,o⟩:=Ar.ex;have U:bg (A .lW a) a.size:=⟨by rw[o.lW]⟩;have B:bg (A .lW b) b.size:=⟨by rw[o.lW]⟩;have O:a.data.toList.length=a.size:=by rw[kZU];rfl
 have F:b.data.toList.length=b.size:=by rw[kZU];rfl
 have D:∀(s:ByteArray) (i:Nat),i<s.size->∃x:UInt8,s.data.toList[i]? =some x/\ji s i=(x.toNat:Int):=λs i N=>by
  have C:i<s.data.size:=N;refine⟨s.data[i],by simp[C],?_⟩;simp[ji,kKk C]
 have p:∀s z i,bg z i->A .byte s z=ji s i:=λs z i c=>by
  rw[o.byte];simp only[ji];rw[c.eq];rfl
 refine kh eJq A Tryz.func214 ?_;cbv;refine ba.gz (G:=Int) (λz=>[(5,.v (.zI z))]) (λ_=>[]) (λm z h'=>∃i:Nat,bg z i/\m=a.size-i/\i<=a.size/\i<=b.size/\h'=h/\∀j,j<i->a.data.toList[j]? =b.data.toList[j]?) a.size 0 ⟨0,⟨rfl⟩,ip,ip,ip,rfl,λj W=>ip⟩ ?_
 intro m z h' I;cbv;obtain⟨i,c,Y,Q,L,rfl,R⟩:=I;have J:=GV (a:=a.data.toList) (b:=b.data.toList) (i:=i) ip ip R;have g:A .aQ .lss z (A .lW a)=decide (i<a.size):=c.zQ U;have k:A .aQ .lss z (A .lW b)=decide (i<b.size):=c.zQ B;have S:A .aQ .lss (A .lW a) (A .lW b)=decide (a.size<b.size):=U.zQ B;by_cases l:i<a.size
 .rw[kS l]at g;rw[g];cbv;by_cases n:i<b.size
  .rw[kS n]at k;rw[k];obtain⟨x,hx,f⟩:=D a i l;obtain⟨y,Z,d⟩:=D b i n;have X:a.data.toList.drop i=x::a.data.toList.drop (i+1):=by
    rw[kQP ip]
    grind
   have E:b.data.toList.drop i=y::b.data.toList.drop (i+1):=by
    rw[kQP ip]
    grind
   rw[X,E]at J;have u:(0:Int)<=z/\z<(a.size:Int):=c.ix l;have w:(0:Int)<=z/\z<(b.size:Int):=c.ix n;have H:A .aQ .neq (A .byte a z) (A .byte b z)=decide (x≠y):=by
    rw[p a z i c,p b z i c,aJ A,f,d,decide_eq_decide];refine not_congr ?_;constructor
    .intro e;exact kZC.1 (kXO.1 e)
    grind
   have T:A .aQ .lss (A .byte a z) (A .byte b z)=decide (x<y):=by
    rw[p a z i c,p b z i c,aV A,f,d,decide_eq_decide,kZT]
    grind
   cbv;refine⟨u,?_⟩;cbv;refine⟨w,?_⟩;cbv;rw[H];by_cases M:x=y
   .rw[kQW (by simp[M])];cbv;refine zqn (a.size-(i+1)) _ ip ⟨i+1,c.succ (A:=A),rfl,ip,ip,rfl,?_⟩
    grind
   rw[kS (iu M)];have q:decide (x<y)=decide (dy a b<0):=by
    unfold dy;rw[J];simp only[Lib.compareBytes]
    grind
   cbv;refine⟨u,?_⟩;cbv;refine⟨w,?_⟩;cbv
   grind
  rw[kQW n]at k;rw[k];have V:b.data.toList.drop i=[]:=wy ip;have q:decide (a.size<b.size)=decide (dy a b<0):=by
   unfold dy;rw[J,V];have:a.data.toList.drop i≠[]:=by
    intro e;have:=congrArg List.length e
    grind
   cases hd:a.data.toList.drop i with
   |nil=>exact absurd hd this
   |cons x r=>simp only[Lib.compareBytes];grind
  cbv
  grind
 rw[kQW l]at g;rw[g];have K:a.data.toList.drop i=[]:=wy ip;have q:decide (a.size<b.size)=decide (dy a b<0):=by
  unfold dy;rw[J,K];cases hd:b.data.toList.drop i with
  |nil=>have:=congrArg List.length hd;rw[kJb]at this;simp at this;simp only[Lib.compareBytes];grind
  |cons y r=>have:=congrArg List.length hd;rw[kJb]at this;simp at this;simp only[Lib.compareBytes];grind
 cbv
 grind
theorem xi{e f g:Option Addr}{k r l s u p:Nat}(q:RP h b n k e r l f s o g u p d):
 Ct 213 [.agg #[.slice b n k,.slice e r l,.slice f s o,.slice g u p],.string nm] h (λv h'=>Le h h'/\∃z,v=.zI z/\uV d.ao (λt=>decide (t.S.name=nm)) z):=by
 have w:=q.ao.len;have J:=q.ao.bound;refine cB eJr Tryz.func213 λA E=>?_;cbv;refine ba.gz (G:=Int) (λz=>[(5,.v (.zI z))]) (λ_=>[(2,[.slice b n k,.slice e r l,.slice f s o,.slice g u p])]) (λm z h'=>∃i:Nat,bg z i/\m=n-i/\i<=n/\h'=h/\∀j,j<i->∀y,d.ao[j]? =some y->decide (y.S.name=nm)=false) n 0 ⟨0,⟨rfl⟩,ip,ip,rfl,λj D=>ip⟩ ?_
 intro m z h' I;cbv;obtain⟨i,a,H,F,rfl,R⟩:=I;refine bm (λc=>?_) (λc=>?_)
 .have Z:=a.lt c;clear c;cbv;obtain⟨x,hx⟩:=cK d.ao i;refine⟨⟨q.ao.bu,a.ix Z⟩,?_⟩;cbv;refine q.ao.CE hx a.eq (o1:=0) (o2:=0) (m:=1) dl (λcs B=>?_);obtain⟨_,_,_,_,_,_,rfl,-,-⟩:=B;cbv;rw[eV A];by_cases C:x.S.name=nm
  .rw[kS C];have hR:uV d.ao (λt=>decide (t.S.name=nm)) z:=⟨.inr ⟨i,x,a,hx,iu C,R⟩⟩;cbv
   grind
  rw[kQW C];cbv;refine zqn (n-(i+1)) _ ip ⟨i+1,a.succ (A:=A),rfl,ip,rfl,?_⟩
  grind
 have K:=a.ge c;have hR:uV d.ao (λt=>decide (t.S.name=nm)) (-1):=⟨.inl ⟨rfl,λx hx=>by
  obtain⟨j,D⟩:=kXT hx
  grind⟩⟩
 cbv
 grind
theorem aKa{a:Type}{xs:List a}{p:a->Bool}(q:uV xs p z):decide (z>=0)=xs.any p:=by
 rcases q.out with⟨rfl,h⟩|⟨i,x,b,hx,c,-⟩
 .grind
 have:=b.eq
 grind
def dh(T:List bS)(nm:ByteArray):Nat:=(T.takeWhile λt=>decide (dy t.S.name nm<0)).length
def dx(d:DB)(s:rM):DB×Int:=
 if decide (ey s≠0)=true then(d,ey s)
 else if d.ao.any (λt=>decide (t.S.name=s.name))=true then(d,7)
 else if decide ((d.ao.length:Int)>=8)=true then(d,4)
 else if decide ((d.ai.length:Int)>0)=true then(d,18)
 else(gY d (d.ao.take (dh d.ao s.name)++[⟨s,[]⟩]++d.ao.drop (dh d.ao s.name)),0)
abbrev RK(h:ad)(d':DB)(e:Int)(k:Value->ad->Prop):Prop:=
 ∀h' b1 n1 c1 b2 n2 c2 b3 n3 c3 b4 n4 c4,Le h h'->RP h' b1 n1 c1 b2 n2 c2 b3 n3 c3 b4 n4 c4 d'->k (.tuple #[.agg #[.slice b1 n1 c1,.slice b2 n2 c2,.slice b3 n3 c3,.slice b4 n4 c4],.zI e]) h'
theorem Fk{c:Type}{p:c->Bool}:∀ {xs:List c} {i:Nat},(∀j,j<i->∀y,xs[j]? =some y->p y=true)->i<=xs.length->(i<xs.length->∃y,xs[i]? =some y/\p y=false)->(xs.takeWhile p).length=i
 | [],i,_,a,_=>by simp at a;simp[a]
 |x::r,0,_,_,s=>by
  obtain⟨y,b,d⟩:=s io;simp at b;subst b;simp[d]
 |x::r,i+1,R,a,s=>by
  have hx:=R 0 ip x rfl;rw[kZB hx,kZs];rw[Fk (xs:=r) (i:=i) (λj e y b=>R (j+1) ip y (iu b)) (iu a) (λh=>by simpa using s (iu h))]
theorem IA{I p r u:Option Addr}{b e w E B F C:Nat}(q:RP h I b e p o w r E B u F C d){sn:Nat}(qs:Sl 202 bJ h (.slice sb sn sc) cols)
 (hl:d.ao.length<=2^37) (ab:∀t∈d.ao,t.S.name.size<=2^60)  (a:dx d ⟨nm,cols,key,only⟩=D)  (M:RK h D.1 D.2 k):
 Ct 93 [.agg #[.slice I b e,.slice p o w,.slice r E B,.slice u F C],.agg #[.string nm,.slice sb sn sc,.zI key,.bool only]] h k:=by
 obtain⟨A,hA⟩:=Ar.ex;have T:=q.ao.len;have kE:=q.ao.bound;have vd:=q.ai.len;unfold dx at a;generalize g:A .aQ .geq (A .nat b) 8=u8;generalize Q:A .aQ .gtr (A .nat o) 0=N;have O:=g;have ak:=Q;rw[cF A,hA.nat]at g;rw[bF A,hA.nat]at Q;simp only[kZn]at g Q;rw[T]at g;rw[vd]at Q;rw[g,Q]at a;refine kh iQe A Tryz.func93 ?_;cbv;refine(Hc (nm:=nm) (key:=key) (only:=only) qs).mono (λv h1 hR=>?_);obtain⟨l1,ze,V,al⟩:=hR;rw[V];rw[<-al]at a;generalize e0:A .aQ .neq ze 0=u0;have f0:=e0;rw[aJ A]at e0;rw[e0]at a;cbv;rw[f0];cases u0 with
 |true=>have a:(d,ze)=D:=a;have c:=M h1 I b e p o w r E B u F C l1 (by rw[<-a];exact q.mono l1);rw[<-a]at c;cbv;exact c
 |false=>
  cbv;refine(xi (q.mono l1)).mono (λv h2 hR=>?_);obtain⟨l2,zf,V,jr⟩:=hR;rw[V];have J:=l1.trans l2;have sL:=aKa jr;generalize e7:A .aQ .geq zf 0=u7;have f7:=e7;rw[cF A]at e7;rw[e7]at sL;have a:(if d.ao.any (λt=>decide (t.S.name=nm))=true then(d,7)else if u8=true then(d,4)else if N=true then(d,18)
   else(gY d (d.ao.take (dh d.ao nm)++[⟨⟨nm,cols,key,only⟩,[]⟩]++d.ao.drop (dh d.ao nm)),0))=D:=a
  rw[<-sL]at a;cbv;rw[f7];cases u7 with
  |true=>have a:(d,7)=D:=a;have c:=M h2 I b e p o w r E B u F C J (by rw[<-a];exact q.mono J);rw[<-a]at c;cbv;exact c
  |false=>
   cbv;rw[O];cases u8 with
   |true=>have a:(d,4)=D:=a;have c:=M h2 I b e p o w r E B u F C J (by rw[<-a];exact q.mono J);rw[<-a]at c;cbv;exact c
   |false=>
    cbv;rw[ak];cases N with
    |true=>have a:(d,18)=D:=a;have c:=M h2 I b e p o w r E B u F C J (by rw[<-a];exact q.mono J);rw[<-a]at c;cbv;exact c
    |false=>
     have a:(gY d (d.ao.take (dh d.ao nm)++[⟨⟨nm,cols,key,only⟩,[]⟩]++d.ao.drop (dh d.ao nm)),0)=D:=a;cbv;refine ba.go (G:=Int) (λz=>[(7,.v (.zI z))]) (λ_=>[(2,[.slice I b e,.slice p o w,.slice r E B,.slice u F C]),(3,[.string nm,.slice sb sn sc,.zI key,.bool only]),(4,[.zN,.zN,.zN,.zN])])
      (λm z h'=>∃i:Nat,bg z i/\m=b-i/\i<=b/\Le h h'/\∀j,j<i->∀y,d.ao[j]? =some y->decide (dy y.S.name nm<0)=true) b 0 ⟨?_,?_,?_⟩ ⟨0,⟨rfl⟩,ip,ip,J,λj hj=>ip⟩ ?_
     .cbv
     .cbv
     .cbv
     intro m z h' hI;cbv;obtain⟨i,f,hm,hi,l,bR⟩:=hI;have g1:A .aQ .lss z (A .nat b)=decide (i<b):=f.zQ (bg.nat b);rw[g1];rcases kKf i b with aZ|mw
     .rw[kS aZ];have Qf:=f.ix aZ;obtain⟨x,hx⟩:=cK d.ao i;have qh:=q.mono l;cbv;refine⟨⟨qh.ao.bu,Qf⟩,?_⟩;cbv;refine qh.ao.CE hx f.eq (o1:=0) (o2:=0) (m:=1) dl (λcs ar=>?_);obtain⟨_,_,_,_,_,_,rfl,-,-⟩:=ar;cbv;refine(aXg (ab x (kQR hx))).mono (λv h3 hR=>?_);obtain⟨l3,t,V,ht⟩:=hR;rw[V];have Ef:=l.trans l3;cbv;cases t with
      |true=>
       cbv;refine zqn (b-(i+1)) _ ip ⟨i+1,f.succ (A:=A),rfl,ip,Ef,?_⟩
       grind
      |false=>
       have nB:dh d.ao nm=i:=Fk bR ip (λ_=>⟨x,hx,ht.symm⟩);have L:=q.mono Ef;have sV:A .nR z 0=i:=dJ (A:=A) f;obtain⟨Qo,Qn⟩:=kE;have fv:0<=z/\z<=(e:Int):=gg
       have ly:0<=z/\z<=(b:Int):=gg
       have U:i<=b:=hi;cbv;intro n6 R g6 e6;have W:Le h3 R:=zqs e6 g6
       have q6:=L.mono W;cbv;refine⟨fv,?_⟩;cbv;have fO:bA 132 bT h3 R (.slice (zsA n6) 0 0) ([]:List bS):=bA.nil;refine fO.append (q6.ao.tp (A:=A) (s:=bT) (z:=A .nat e) U sV sV) dl rfl dl gg W (λm7 b7 c7 h7 Nz X t7 k7 iO=>?_);cbv;intro n8 S g8 g;have K:Le h7 S:=zqs g g8
       have O:=zqt g;have r8:bT.R S [.string nm,.slice sb sn sc,.zI key,.bool only,.zN] ⟨⟨nm,cols,key,only⟩,[]⟩:=⟨_,_,_,_,_,_,rfl,qs.mono ((Ef.trans (X.trans K)).t _),Sl.nil⟩;have v8:=bh (s:=bT) O r8;cbv;refine(iO.mono (K.t _)).append v8 dl rfl dl ip (X.trans K) (λm9 b9 c9 h9 ag Y t9 k9 vD=>?_);have q9:=L.mono Y;have yJ:=cS (A:=A) f (n:=b);cbv;refine⟨ly,?_⟩;cbv;refine vD.append (q9.ao.jX (A:=A) (s:=bT) f U yJ (c':=e-i) rfl) dl rfl dl gg Y (λII EO Jp iE BD P an Be lF=>?_);have Z:=lF.sl;rw[kZA]at Z;rw[nB]at a;have H:=L.mono P;have hL:=Ef.trans P;have c:=M iE EO II Jp p o w r E B u F C hL (by rw[<-a];exact⟨Z,H.ai,H.holds,H.waits⟩);rw[<-a]at c;cbv;exact c
     rw[kQW ip];have nB:dh d.ao nm=i:=Fk bR ip (λh=>ip);have L:=q.mono l;have sV:A .nR z 0=i:=dJ (A:=A) f;obtain⟨Qo,Qn⟩:=kE;have fv:0<=z/\z<=(e:Int):=by have:=f.eq;omega
     have ly:0<=z/\z<=(b:Int):=by have:=f.eq;omega
     have U:i<=b:=hi;cbv;intro n6 R g6 e6;have W:Le h' R:=zqs e6 g6
     have q6:=L.mono W;cbv;refine⟨fv,?_⟩;cbv;have fO:bA 132 bT h' R (.slice (zsA n6) 0 0) ([]:List bS):=bA.nil;refine fO.append (q6.ao.tp (A:=A) (s:=bT) (z:=A .nat e) U sV sV) dl rfl dl gg W (λm7 b7 c7 h7 Nz X t7 k7 iO=>?_);cbv;intro n8 S g8 g;have K:Le h7 S:=zqs g g8
     have O:=zqt g;have r8:bT.R S [.string nm,.slice sb sn sc,.zI key,.bool only,.zN] ⟨⟨nm,cols,key,only⟩,[]⟩:=⟨_,_,_,_,_,_,rfl,qs.mono ((l.trans (X.trans K)).t _),Sl.nil⟩;have v8:=bh (s:=bT) O r8;cbv;refine(iO.mono (K.t _)).append v8 dl rfl dl ip (X.trans K) (λm9 b9 c9 h9 ag Y t9 k9 vD=>?_);have q9:=L.mono Y;have yJ:=cS (A:=A) f (n:=b);cbv;refine⟨ly,?_⟩;cbv;refine vD.append (q9.ao.jX (A:=A) (s:=bT) f U yJ (c':=e-i) rfl) dl rfl dl gg Y (λII EO Jp iE BD P an Be lF=>?_);have Z:=lF.sl;rw[kZA]at Z;rw[nB]at a;have H:=L.mono P;have hL:=l.trans P;have c:=M iE EO II Jp p o w r E B u F C hL (by rw[<-a];exact⟨Z,H.ai,H.holds,H.waits⟩);rw[<-a]at c;cbv;exact c
def eR:Nat->DB
 |0=>⟨[],[],[],[]⟩
 |i+1=>(bP (eR i) (aS i)).1
def ov:Nat->DB
 |0=>⟨[],[],[],[]⟩
 |i+1=>(dx (ov i) (aS i)).1
def gG(i:Nat):bS:=⟨aS i,[]⟩
def ei:DB:=⟨[gG 0,gG 1,gG 2],[],[],[]⟩
theorem Rz:eR 1=⟨[gG 0],[],[],[]⟩:=by cbv
theorem Ry:eR 2=⟨[gG 0,gG 1],[],[],[]⟩:=by cbv
theorem ur:eR 3=ei:=by cbv
theorem aZQ:ov 1=⟨[gG 0],[],[],[]⟩:=by cbv
theorem aZP:ov 2=⟨[gG 0,gG 1],[],[],[]⟩:=by cbv
theorem Rx:ov 3=ei:=by cbv
theorem pM:∀i,i<=3->Small (eR i)
 |0,_=>⟨dl,dl,by simp[eR],dl,dl⟩
 |1,_=>by rw[Rz];exact⟨io,io,by simp[gG],io,io⟩
 |2,_=>by rw[Ry];exact⟨io,io,by simp[gG],io,io⟩
 |3,_=>by rw[ur];exact⟨by simp[ei],by simp[ei],by simp[ei,gG],by simp[ei],by simp[ei]⟩
 |n+4,h=>ip
theorem iQ:∀i,i<3->(gG i).S.name.size<=2^60
 |0,_=>dl
 |1,_=>dl
 |2,_=>dl
 |n+3,h=>ip
theorem AJ:∀i,i<=3->(ov i).ao.length<=2^37/\∀t∈(ov i).ao,t.S.name.size<=2^60
 |0,_=>by simp[ov]
 |1,_=>by rw[aZQ];simp[iQ 0]
 |2,_=>by grind [aZP,iQ]
 |3,_=>by grind [Rx,ei,iQ]
 |n+4,h=>ip
structure bJE where
 b1:Option Addr
 n1:Nat
 c1:Nat
 b2:Option Addr
 n2:Nat
 c2:Nat
 b3:Option Addr
 n3:Nat
 c3:Nat
 b4:Option Addr
 n4:Nat
 c4:Nat
theorem aZR(hk:∀h' e L p f M r j N s n O t u F e1 v H B w I C x J E,Le h h'->
 fD h' (.agg #[.slice e L p,.slice f M r,.slice j N s,.slice n O t]) ei->RP h' u F e1 v H B w I C x J E ei->
 k (.tuple #[.agg #[.slice e L p,.slice f M r,.slice j N s,.slice n O t],.agg #[.slice u F e1,.slice v H B,.slice w I C,.slice x J E]]) h'):
 Ct 35 [] h k:=by
 refine cB iQW Tryz.func35 λA hA=>?_;cbv;refine ba.go (G:=Int×bJE×bJE) (λg=>[(4,.v (.zI g.1))]) (λg=>[(0,[.zN,.zN,.zN,.zN]),(1,[.zN,.zN,.zN,.zN]),(2,[.slice g.2.1.b1 g.2.1.n1 g.2.1.c1,.slice g.2.1.b2 g.2.1.n2 g.2.1.c2,.slice g.2.1.b3 g.2.1.n3 g.2.1.c3,.slice g.2.1.b4 g.2.1.n4 g.2.1.c4]),(3,[.slice g.2.2.b1 g.2.2.n1 g.2.2.c1,.slice g.2.2.b2 g.2.2.n2 g.2.2.c2,.slice g.2.2.b3 g.2.2.n3 g.2.2.c3,.slice g.2.2.b4 g.2.2.n4 g.2.2.c4])])
  (λm g h'=>∃i,bg g.1 i/\m=3-i/\i<=3/\Le h h'/\fD h' (.agg #[.slice g.2.1.b1 g.2.1.n1 g.2.1.c1,.slice g.2.1.b2 g.2.1.n2 g.2.1.c2,.slice g.2.1.b3 g.2.1.n3 g.2.1.c3,.slice g.2.1.b4 g.2.1.n4 g.2.1.c4]) (eR i)/\RP h' g.2.2.b1 g.2.2.n1 g.2.2.c1 g.2.2.b2 g.2.2.n2 g.2.2.c2 g.2.2.b3 g.2.2.n3 g.2.2.c3 g.2.2.b4 g.2.2.n4 g.2.2.c4 (ov i)) 3
  (0,⟨none,0,0,none,0,0,none,0,0,none,0,0⟩,⟨none,0,0,none,0,0,none,0,0,none,0,0⟩) ⟨?_,?_,?_⟩ ⟨0,⟨rfl⟩,ip,ip,Le.refl _,gQx h,⟨Sl.nil,Sl.nil,Sl.nil,Sl.nil⟩⟩ ?_
 .cbv
 .cbv
 .cbv
 intro m g h' hI;cbv;obtain⟨i,a,hm,d,l,q,b⟩:=hI;obtain⟨z,⟨e,L,p,f,M,r,j,N,s,n,O,t⟩,⟨u,F,e1,v,H,B,w,I,C,x,J,E⟩⟩:=g;have a:bg z i:=a;have q:fD h' (.agg #[.slice e L p,.slice f M r,.slice j N s,.slice n O t]) (eR i):=q;have b:RP h' u F e1 v H B w I C x J E (ov i):=b;refine bm (λc=>?_) (λc=>?_)
 .have Y:i<3:=by rw[aV A,kJP]at c;have c:z<3:=c;have:=a.eq;omega
  clear c;cbv;refine AL a Y h' (λh2 sb sn sc nm o l2 nG ho qs=>?_);obtain⟨D,S⟩:∃D,D=bP (eR i) (aS i):=⟨_,rfl⟩;have hD:bP (eR i) ⟨nm,bI,0,o⟩=D:=by rw[nG,ho,S];rfl
  have Z:D.1=eR (i+1):=by rw[S];rfl
  clear S;obtain⟨R,K⟩:∃R,R=dx (ov i) (aS i):=⟨_,rfl⟩;have V:R.1=ov (i+1):=by rw[K];rfl
  obtain⟨T,hT⟩:∃T,T=eR (i+1):=⟨_,rfl⟩;obtain⟨U,hU⟩:∃U,U=ov (i+1):=⟨_,rfl⟩;rw[<-hT]at Z;rw[<-hU]at V;cbv;refine Dh (q.mono l2) (nm:=nm) (key:=0) (only:=o) qs (pM i d) hD (λh3 f1 p1 g1 f2 p2 g2 f3 p3 g3 f4 p4 g4 l3 W=>?_);cbv;refine AL a Y h3 (λh4 al ag ak y o4 l4 Q X P=>?_);have hR:dx (ov i) ⟨y,bI,0,o4⟩=R:=by rw[Q,X,K];rfl
  have sw:=(l2.trans l3).trans l4;cbv;refine IA (b.mono sw) (nm:=y) (key:=0) (only:=o4) P (AJ i d).1 (AJ i d).2 hR (λh5 r1 s1 t1 r2 s2 t2 r3 s3 t3 r4 s4 t4 l5 ab=>?_);cbv;refine zqn (3-(i+1)) (_,⟨f1,p1,g1,f2,p2,g2,f3,p3,g3,f4,p4,g4⟩,⟨r1,s1,t1,r2,s2,t2,r3,s3,t3,r4,s4,t4⟩) ip ⟨i+1,a.succ (A:=A),rfl,ip,l.trans (sw.trans l5),by rw[<-hT,<-Z];exact W.mono (l4.trans l5),gg⟩
 have mw:i=3:=by rw[aV A,decide_eq_false_iff_not]at c;have c:¬z<3:=c;have:=a.eq;omega
 clear c;subst mw;rw[ur]at q;rw[Rx]at b;have az:=hk _ _ _ _ _ _ _ _ _ _ _ _ _ _ _ _ _ _ _ _ _ _ _ _ _ l q b;cbv;refine zqr ?_;cbv;exact az
theorem WY(a:Int)(n:Nat)(o:0<n)(l:n<=2^40)(h:ad)(g:∀z i,bg z i->i=(a % (n:Int)).toNat->i<n->k (.zI z) h):Ct 269 [.zI a,.zI (n:Int)] h k:=by
 obtain⟨A,b⟩:=Ar.ex;obtain⟨m,j⟩:∃m:Int,m=(n:Int):=⟨_,rfl⟩;rw[<-j];have E:m≠0:=ip
 have B:A .aX .rem .i64 a m=a.tmod m:=by rw[b.aX];rfl
 have G:a.tmod m<m:=by have:=kXs a (show 0<m by omega);omega
 have Q:-m<a.tmod m:=by have:=kQO a (show 0<m by omega);omega
 have x:a % m=if a.tmod m<0 then a.tmod m+m else a.tmod m:=by
  rw[kXG];have c:=kKb a E;have d:=kKa a (show 0<m by omega)
  grind
 generalize p:a.tmod m=t at *;generalize e:A .aQ .lss t 0=u;have f:=e;rw[aV A]at e;have key:∀z:Int,z=a % m->k (.zI z) h:=λz r=>by
  have c:=kKb a E;have d:=kKa a (show 0<m by omega);refine g z (a % (n:Int)).toNat ⟨?_⟩ rfl ?_
  .grind
  grind
 have I:t<0->A .aX .add .i64 t m=t+m:=λh=>by
  rw[b.aX];simp only[aX];rw[IntWalk.i64_in _ ip]
 refine kh eZu A Tryz.func269 ?_;cbv;refine⟨E,?_⟩;cbv;rw[B];rw[f];cases u with
 |true=>
  have q:=kZr e;have s:=key (t+m) (by rw[x,if_pos q]);cbv
  grind
 |false=>have q:=kZX e;have s:=key t (by rw[x,if_neg q]);cbv;exact s
theorem oe(a:Int)(m:Int)(c:m=(n:Int))(d:0<n)(f:n<=2^40)(h:ad)(b:∀z i,bg z i->i=(a % (n:Int)).toNat->i<n->k (.zI z) h):Ct 269 [.zI a,.zI m] h k:=by subst c;exact WY a n d f h b
def dQ:ByteArray:=⟨#[]⟩
def GK(i:Nat)(a:Int):Int:=(a.tdiv (1+3*(i:Int))) % 40-5
def qY:ByteArray:=⟨#[97,98,99,100,101,102,103,104,105,106,107,108,109,110,111,112,113,114,115,116,117,118,119,120,121,122]⟩
def nE(c:jR)(i:Nat)(a:Int):jq:=
 if c.null=true/\a % 5=0 then⟨0,0,dQ⟩else if c.kind=1 then⟨c.kind,GK i a % 2,dQ⟩else if c.kind=2 then⟨c.kind,GK i a,dQ⟩else if c.kind=3 then⟨c.kind,0,qY.extract 0 (GK i a % 9).toNat⟩else⟨c.kind,0,dQ⟩
def BB(cols:List jR)(a:Int)(m:Nat):List jq:=(List.range m).map λi=>nE (cols.getD i ⟨dQ,0,false⟩) i a
theorem iR{a:Int}{x:jR}(hx:cols[i]? =some x):BB cols a (i+1)=BB cols a i++[nE x i a]:=by unfold BB;rw[List.range_succ,kXQ];simp[hx]
theorem bJj{E:Nat}(q:Sl 202 bJ h (.slice sb E sc) cols)(hl:cols.length<=2^20)(a:Int)(ha:-2^63<=a/\a<2^63)(hk:∀h' b n c,Le h h'->bA 45 bG h h' (.slice b n c) (BB cols a cols.length)->k (.slice b n c) h'):
 Ct 149 [.agg #[.string nm,.slice sb E sc,.zI key,.bool only],.zI a] h k:=by
 have an:=q.len;refine cB eKv Tryz.func149 λA hA=>?_;cbv;refine ba.go (G:=Int×Option Addr×Nat×Nat) (λg=>[(6,.v (.zI g.1)),(5,.v (.slice g.2.1 g.2.2.1 g.2.2.2))]) (λ_=>[(2,[.string nm,.slice sb E sc,.zI key,.bool only])])
  (λm g h'=>∃i,bg g.1 i/\m=E-i/\i<=E/\Le h h'/\bA 45 bG h h' (.slice g.2.1 g.2.2.1 g.2.2.2) (BB cols a i)) E (0,none,0,0) ⟨?_,?_,?_⟩ ⟨0,⟨rfl⟩,ip,ip,Le.refl _,bA.nil⟩ ?_
 .cbv
 .cbv
 .cbv
 intro m g h' hI;cbv;obtain⟨i,u,hm,hi,f,H⟩:=hI;obtain⟨z,b5,n5,c5⟩:=g;have u:bg z i:=u;have H:bA 45 bG h h' (.slice b5 n5 c5) (BB cols a i):=H;obtain⟨B,hB⟩:∃B,B=BB cols a i:=⟨_,rfl⟩;rw[<-hB]at H;have aw:B.length=i:=by rw[hB];unfold BB;simp
 have Na:n5=i:=by have:=H.sl.len;omega
 refine bm (λhc=>?_) (λhc=>?_)
 .have aZ:=u.lt hc;clear hc;have dI:=u.eq;have kE:=q.bound.1;have Qf:=u.ix aZ;obtain⟨⟨F,d,S⟩,hx⟩:=cK cols i;have OH:A .aX .add .i64 1 (A .aX .mul .i64 3 z)=1+3*(i:Int):=by rw[hA.aX];simp only[aX];rw[IntWalk.i64_in (3*z) ip,IntWalk.i64_in _ ip];omega
  have ag:¬A .aX .add .i64 1 (A .aX .mul .i64 3 z)=0:=gg
  have al:A .aX .quo .i64 a (A .aX .add .i64 1 (A .aX .mul .i64 3 z))=a.tdiv (1+3*(i:Int)):=by
   rw[OH,hA.aX];simp only[aX];have qX:(1:Int)+3*(i:Int)>0:=ip
   generalize (1:Int)+3*(i:Int)=dd at qX;have iZ:∀b:Int,0<=b->0<=b.tdiv dd/\b.tdiv dd<=b:=λb Vf=>by
    rw[kQY Vf];exact⟨Int.ediv_nonneg Vf ip,Int.ediv_le_self _ Vf⟩
   by_cases h0:0<=a
   .have:=iZ a h0;rw[IntWalk.i64_in _ ip]
   have:=iZ (-a) ip;rw[Int.neg_tdiv]at this;rw[IntWalk.i64_in _ ip]
  have Z:=q.mono (f.t _);cbv;refine⟨ag,?_⟩;cbv;refine oe _ 40 (n:=40) rfl dl dl h' (λP j1 ld ao aq=>?_);cbv;refine⟨⟨Z.bu,Qf⟩,?_⟩;cbv;refine Z.cI hx u.eq (o:=1) (m:=1) dl (λcs C=>?_);have C:cs=[.string F,.zI d,.bool S]:=C;subst C;cbv;have Ca:∀P:Int,bg P ((A .aX .quo .i64 a (A .aX .add .i64 1 (A .aX .mul .i64 3 z)) % ((40:Nat):Int)).toNat)->A .aX .sub .i64 P 5=GK i a:=λP ld=>by
   have:=ld.eq;rw[al,show((40:Nat):Int)=40 from rfl]at this;have h1:=kKb (a.tdiv (1+3*(i:Int))) (show(40:Int)≠0 by decide);have h2:=kKa (a.tdiv (1+3*(i:Int))) (show(0:Int)<40 by decide);rw[hA.aX];simp only[aX];unfold GK;have h3:P=a.tdiv (1+3*(i:Int)) % 40:=by
    grind
   rw[IntWalk.i64_in _ ip];omega
  have U:=Ca P gg;generalize e1:A .aQ .eql d 1=u1;generalize e2:A .aQ .eql d 2=u2;generalize e3:A .aQ .eql d 3=u3;have f2:=e2;have f3:=e3;cases u1 with
  |true=>
   have R:d=1:=by rw[au A]at e1;grind
   cbv;refine oe _ 2 (n:=2) rfl dl dl h' (λI j2 mf Nc ak=>?_);have Zh:I=GK i a % 2:=by
    have:=mf.eq
    grind
   cbv;refine⟨⟨Z.bu,Qf⟩,?_⟩;cbv;refine Z.cI hx u.eq (o:=2) (m:=1) dl (λcs C=>?_);have C:cs=[.string F,.zI d,.bool S]:=C;subst C;cbv;cases S with
   |false=>
    cbv;intro y t r e;have l:Le h' t:=zqs e r
    have p:=zqt e;have V:nE ⟨F,d,false⟩ i a=⟨d,I,dQ⟩:=by simp[nE,R,Zh]
    cbv;refine(H.mono (l.t _)).append (bh (s:=bG) p (x:=⟨d,I,dQ⟩) rfl) dl rfl dl ip (f.trans l) (λw j c' K J v M L O=>?_);cbv;refine zqn (E-(i+1)) (_,j,w,c') ip ⟨i+1,u.succ (A:=A),rfl,ip,v,?_⟩
    grind [iR,hx]
   |true=>
    cbv;refine oe a 5 (n:=5) rfl dl dl h' (λN j5 Q Y X=>?_);have T:N=a % 5:=by
     have:=Q.eq
     grind
    cbv;generalize D:A .aQ .eql N 0=u5;rw[au A]at D;cases u5 with
    |true=>
     have D:a % 5=0:=gg
     cbv;intro y t r e;have l:Le h' t:=zqs e r
     have p:=zqt e;have V:nE ⟨F,d,true⟩ i a=⟨0,0,dQ⟩:=by unfold nE;grind
     cbv;refine(H.mono (l.t _)).append (bh (s:=bG) p (x:=⟨0,0,dQ⟩) rfl) dl rfl dl ip (f.trans l) (λw j c' K J v M L O=>?_);cbv;refine zqn (E-(i+1)) (_,j,w,c') ip ⟨i+1,u.succ (A:=A),rfl,ip,v,?_⟩
     grind [iR,hx]
    |false=>
     have D:¬a % 5=0:=gg
     cbv;intro y t r e;have l:Le h' t:=zqs e r
     have p:=zqt e;have V:nE ⟨F,d,true⟩ i a=⟨d,I,dQ⟩:=by simp[nE,D,R,Zh]
     cbv;refine(H.mono (l.t _)).append (bh (s:=bG) p (x:=⟨d,I,dQ⟩) rfl) dl rfl dl ip (f.trans l) (λw j c' K J v M L O=>?_);cbv;refine zqn (E-(i+1)) (_,j,w,c') ip ⟨i+1,u.succ (A:=A),rfl,ip,v,?_⟩
     grind [iR,hx]
  |false=>
   have R:¬d=1:=by rw[au A]at e1;grind
   cbv;rw[f2];cases u2 with
   |true=>
    have W:d=2:=by rw[au A]at e2;grind
    cbv;refine⟨⟨Z.bu,Qf⟩,?_⟩;cbv;refine Z.cI hx u.eq (o:=2) (m:=1) dl (λcs C=>?_);have C:cs=[.string F,.zI d,.bool S]:=C;subst C;cbv;cases S with
    |false=>
     cbv;intro y t r e;have l:Le h' t:=zqs e r
     have p:=zqt e;have V:nE ⟨F,d,false⟩ i a=⟨d,A .aX .sub .i64 P 5,dQ⟩:=by simp[nE,R,W,U]
     cbv;refine(H.mono (l.t _)).append (bh (s:=bG) p (x:=⟨d,A .aX .sub .i64 P 5,dQ⟩) rfl) dl rfl dl ip (f.trans l) (λw j c' K J v M L O=>?_);cbv;refine zqn (E-(i+1)) (_,j,w,c') ip ⟨i+1,u.succ (A:=A),rfl,ip,v,?_⟩
     grind [iR,hx]
    |true=>
     cbv;refine oe a 5 (n:=5) rfl dl dl h' (λN j5 Q Y X=>?_);have T:N=a % 5:=by
      have:=Q.eq
      grind
     cbv;generalize D:A .aQ .eql N 0=u5;rw[au A]at D;cases u5 with
     |true=>
      have D:a % 5=0:=gg
      cbv;intro y t r e;have l:Le h' t:=zqs e r
      have p:=zqt e;have V:nE ⟨F,d,true⟩ i a=⟨0,0,dQ⟩:=by unfold nE;grind
      cbv;refine(H.mono (l.t _)).append (bh (s:=bG) p (x:=⟨0,0,dQ⟩) rfl) dl rfl dl ip (f.trans l) (λw j c' K J v M L O=>?_);cbv;refine zqn (E-(i+1)) (_,j,w,c') ip ⟨i+1,u.succ (A:=A),rfl,ip,v,?_⟩
      grind [iR,hx]
     |false=>
      have D:¬a % 5=0:=gg
      cbv;intro y t r e;have l:Le h' t:=zqs e r
      have p:=zqt e;have V:nE ⟨F,d,true⟩ i a=⟨d,A .aX .sub .i64 P 5,dQ⟩:=by simp[nE,D,R,W,U]
      cbv;refine(H.mono (l.t _)).append (bh (s:=bG) p (x:=⟨d,A .aX .sub .i64 P 5,dQ⟩) rfl) dl rfl dl ip (f.trans l) (λw j c' K J v M L O=>?_);cbv;refine zqn (E-(i+1)) (_,j,w,c') ip ⟨i+1,u.succ (A:=A),rfl,ip,v,?_⟩
      grind [iR,hx]
   |false=>
    have W:¬d=2:=by rw[au A]at e2;grind
    cbv;rw[f3];cases u3 with
    |true=>
     have k3:d=3:=by rw[au A]at e3;grind
     cbv;refine oe _ 9 (n:=9) rfl dl dl h' (λI j2 mf Nc ak=>?_);have ab:A .sub qY 0 I=qY.extract 0 (GK i a % 9).toNat:=by have:=mf.eq;rw[Nc,U]at this;rw[hA.sub];grind
     have oR:0<=I/\I<=26:=by have:=mf.eq;omega
     cbv;refine⟨oR,?_⟩;cbv;refine⟨⟨Z.bu,Qf⟩,?_⟩;cbv;refine Z.cI hx u.eq (o:=2) (m:=1) dl (λcs C=>?_);have C:cs=[.string F,.zI d,.bool S]:=C;subst C;cbv;cases S with
     |false=>
      cbv;intro y t r e;have l:Le h' t:=zqs e r
      have p:=zqt e;have V:nE ⟨F,d,false⟩ i a=⟨d,0,A .sub qY 0 I⟩:=by simp[nE,R,W,k3,ab]
      cbv;refine(H.mono (l.t _)).append (bh (s:=bG) p (x:=⟨d,0,A .sub qY 0 I⟩) rfl) dl rfl dl ip (f.trans l) (λw j c' K J v M L O=>?_);cbv;refine zqn (E-(i+1)) (_,j,w,c') ip ⟨i+1,u.succ (A:=A),rfl,ip,v,?_⟩
      grind [iR,hx]
     |true=>
      cbv;refine oe a 5 (n:=5) rfl dl dl h' (λN j5 Q Y X=>?_);have T:N=a % 5:=by
       have:=Q.eq
       grind
      cbv;generalize D:A .aQ .eql N 0=u5;rw[au A]at D;cases u5 with
      |true=>
       have D:a % 5=0:=gg
       cbv;intro y t r e;have l:Le h' t:=zqs e r
       have p:=zqt e;have V:nE ⟨F,d,true⟩ i a=⟨0,0,dQ⟩:=by unfold nE;grind
       cbv;refine(H.mono (l.t _)).append (bh (s:=bG) p (x:=⟨0,0,dQ⟩) rfl) dl rfl dl ip (f.trans l) (λw j c' K J v M L O=>?_);cbv;refine zqn (E-(i+1)) (_,j,w,c') ip ⟨i+1,u.succ (A:=A),rfl,ip,v,?_⟩
       grind [iR,hx]
      |false=>
       have D:¬a % 5=0:=gg
       cbv;intro y t r e;have l:Le h' t:=zqs e r
       have p:=zqt e;have V:nE ⟨F,d,true⟩ i a=⟨d,0,A .sub qY 0 I⟩:=by simp[nE,D,R,W,k3,ab]
       cbv;refine(H.mono (l.t _)).append (bh (s:=bG) p (x:=⟨d,0,A .sub qY 0 I⟩) rfl) dl rfl dl ip (f.trans l) (λw j c' K J v M L O=>?_);cbv;refine zqn (E-(i+1)) (_,j,w,c') ip ⟨i+1,u.succ (A:=A),rfl,ip,v,?_⟩
       grind [iR,hx]
    |false=>
     have k3:¬d=3:=by rw[au A]at e3;grind
     cbv;refine⟨⟨Z.bu,Qf⟩,?_⟩;cbv;refine Z.cI hx u.eq (o:=2) (m:=1) dl (λcs C=>?_);have C:cs=[.string F,.zI d,.bool S]:=C;subst C;cbv;cases S with
     |false=>
      cbv;intro y t r e;have l:Le h' t:=zqs e r
      have p:=zqt e;have V:nE ⟨F,d,false⟩ i a=⟨d,0,dQ⟩:=by simp[nE,R,W,k3]
      cbv;refine(H.mono (l.t _)).append (bh (s:=bG) p (x:=⟨d,0,dQ⟩) rfl) dl rfl dl ip (f.trans l) (λw j c' K J v M L O=>?_);cbv;refine zqn (E-(i+1)) (_,j,w,c') ip ⟨i+1,u.succ (A:=A),rfl,ip,v,?_⟩
      grind [iR,hx]
     |true=>
      cbv;refine oe a 5 (n:=5) rfl dl dl h' (λN j5 Q Y X=>?_);have T:N=a % 5:=by
       have:=Q.eq
       grind
      cbv;generalize D:A .aQ .eql N 0=u5;rw[au A]at D;cases u5 with
      |true=>
       have D:a % 5=0:=gg
       cbv;intro y t r e;have l:Le h' t:=zqs e r
       have p:=zqt e;have V:nE ⟨F,d,true⟩ i a=⟨0,0,dQ⟩:=by unfold nE;grind
       cbv;refine(H.mono (l.t _)).append (bh (s:=bG) p (x:=⟨0,0,dQ⟩) rfl) dl rfl dl ip (f.trans l) (λw j c' K J v M L O=>?_);cbv;refine zqn (E-(i+1)) (_,j,w,c') ip ⟨i+1,u.succ (A:=A),rfl,ip,v,?_⟩
       grind [iR,hx]
      |false=>
       have D:¬a % 5=0:=gg
       cbv;intro y t r e;have l:Le h' t:=zqs e r
       have p:=zqt e;have V:nE ⟨F,d,true⟩ i a=⟨d,0,dQ⟩:=by simp[nE,D,R,W,k3]
       cbv;refine(H.mono (l.t _)).append (bh (s:=bG) p (x:=⟨d,0,dQ⟩) rfl) dl rfl dl ip (f.trans l) (λw j c' K J v M L O=>?_);cbv;refine zqn (E-(i+1)) (_,j,w,c') ip ⟨i+1,u.succ (A:=A),rfl,ip,v,?_⟩
       grind [iR,hx]
 have mw:=u.ge hc;clear hc;have vg:i=E:=ip
 have lN:Le h h':=f;have az:=hk h' b5 n5 c5 lN gg;cbv;exact az
end Go.S
