import Derived.Test.YtifjeceolckgaaaGreatEB
set_option linter.all false
set_option maxRecDepth 100000
set_option maxHeartbeats 8000000
namespace Go.S
open Go.Sx Go.Proofs
variable {only:Bool}{s:ByteArray}{d:DB}{D:DB×Int}{key z:Int}{cols:List cK}{c i j n o:Nat}{b:Option Addr}{k:Value->ad->Prop}{h h':ad}
def bQ(W:List fJ)(s:Int):List Int:=W.map λx=>IntKind.i64.wrap (x.s-s)
def Hw(d:DB)(hd:cg):Bool:=jG (bQ d.aq hd.s)&&jG (aQ d.az hd.table)
structure Small(d:DB):Prop where
 az:d.az.length<=2^37
 aq:d.aq.length<=2^37
 rows:∀t∈d.az,t.rows.length<=2^37
 holds:d.holds.length<2^18
 waits:d.waits.length<2^18
def rh(d:DB)(s:FR):DB×Int:=nZ d s (di (aQ d.az s.name)) (jG (aQ d.az s.name))
def dy(d:DB)(s:Int):DB×Int:=jh d s (di (bQ d.aq s)) (jG (bQ d.aq s))
abbrev bJg(h:ad)(d':DB)(e:Int)(k:Value->ad->Prop):Prop:=
 ∀h' b1 n1 c1 b2 n2 c2 b3 n3 c3 b4 n4 c4,Le h h'->ik h' (.agg #[.slice b1 n1 c1,.slice b2 n2 c2,.slice b3 n3 c3,.slice b4 n4 c4]) d'->k (.tuple #[.agg #[.slice b1 n1 c1,.slice b2 n2 c2,.slice b3 n3 c3,.slice b4 n4 c4],.int .i64 e]) h'
theorem MA(a:aS z i)(b:aS z j):i=j:=by have:=a.eq;have:=b.eq;omega
theorem Zz{v:Value}(q:ik h v d){nm:ByteArray}{s:Option Addr}(w:Sl 155 bI h (.slice s n c) cols)(m:Small d)(j:rh d ⟨nm,cols,key,only⟩=D)
  (r:bJg h D.1 D.2 k):Ct 35 [v,.agg #[.string nm,.slice s n c,.int .i64 key,.bool only]] h k:=
 (bQV q w m.az m.aq).mono (λv h' hR=>by
  obtain⟨L,e,z,i,is,t,l,hd,a,u,o⟩:=hR;obtain⟨b,g⟩:=o.at_;have p:=MA u b;have Z:nZ d ⟨nm,cols,key,only⟩ i is=D:=by rw[<-j,p,g];rfl
  rw[Z]at hd a;obtain⟨x,H,C,y,I,E,A,J,F,B,K,G,f⟩:=hd.form;rw[t,f,a];exact r h' _ _ _ _ _ _ _ _ _ _ _ _ l (by rw[<-f];exact hd))
theorem uX{v:Value}(q:ik h v d)(s:Int)(r:Small d)(g:dy d s=D)(n:bJg h D.1 D.2 k):Ct 14 [v,.int .i64 s] h k:=
 (cZs q s r.aq).mono (λv h' hR=>by
  obtain⟨I,e,z,i,is,o,l,hd,a,p,j⟩:=hR;obtain⟨b,c⟩:=j.at_;have m:=MA p b;have Z:jh d s i is=D:=by rw[<-g,m,c];rfl
  rw[Z]at hd a;obtain⟨t,E,y,u,F,A,w,G,B,x,H,C,f⟩:=hd.form;rw[o,f,a];exact n h' _ _ _ _ _ _ _ _ _ _ _ _ l (by rw[<-f];exact hd))
def gKK:DB:=⟨[],[],[],[]⟩
def nA:ByteArray:=⟨#[97]⟩
theorem hZJ(h:ad):ik h (.agg #[.slice none 0 0,.slice none 0 0,.slice none 0 0,.slice none 0 0]) gKK:=
 ⟨_,_,_,_,_,_,_,_,_,_,_,_,[],rfl,Sl.nil,Sl.nil,Sl.nil,Sl.nil,rfl⟩
def LR:List ByteArray:=[⟨#[116,97]⟩,⟨#[116,98]⟩,⟨#[116,99]⟩]
def bp:List cK:=[⟨nA,2,false⟩,⟨⟨#[98]⟩,3,true⟩]
def aF(t:Nat):FR:=⟨(LR[t]?).getD jb,bp,0,decide (t=2)⟩
theorem Vl{t:Nat}(g:aS z t)(p:t<3)(h:ad)
 (E:∀h' b n c nm o,Le h h'->nm=(aF t).name->o=(aF t).only->Sl 155 bI h' (.slice b n c) bp->k (.agg #[.string nm,.slice b n c,.int .i64 0,.bool o]) h'):Ct 36 [.int .i64 z] h k:=by
 obtain⟨A,H⟩:=Ar.ex;obtain⟨x,hx⟩:=aE (xs:=LR) (i:=t) p;have Z:x=(aF t).name:=by unfold aF;rw[hx];rfl
 have D:A .aI .eql z 2=decide (t=2):=by rw[aA A,decide_eq_decide];have:=g.eq;omega
 have J:(0:Int)<=z/\z<((3:Nat):Int):=g.ix p;refine mQF jKM A Tryz.func36 ?_;cbv;intro r e G l;have F:Le h e:=by rw[l];exact Le.set G
 have B:=(congrFun l r).trans ae;have s1:Sl 155 bI e (.slice (some ⟨r,0,none⟩) 2 2) bp:=by
  refine Sl.fresh (xs:=bp) B ⟨by simp[bp,bI],λj y a=>?_⟩ (by simp[bp]) (by simp[bp])
  match j,a with
  |0,a=>simp[bp]at a;subst a;rfl
  |1,a=>simp[bp]at a;subst a;rfl
  |j+2,a=>simp[bp]at a
 cbv;intro u f Y m;have q:Le e f:=by rw[m];exact Le.set Y
 have C:=(congrFun m u).trans ae;have s2:Sl 9 dX f (.slice (some ⟨u,0,none⟩) 3 3) LR:=GC (s:=dX) rfl C (x:=⟨#[116,97]⟩) (y:=⟨#[116,98]⟩) (w:=⟨#[116,99]⟩) rfl rfl rfl;cbv;refine⟨⟨rfl,J⟩,?_⟩;cbv;refine s2.load hx g.eq (λcs d=>?_);have d:cs=[.string x]:=d;subst d;have v:=E f _ _ _ x (decide (t=2)) (F.trans q) Z rfl (s1.mono (q.t _));cbv;rw[D];exact v
theorem bKT(h:ad):Ct 212 [] h (λv h'=>Le h h'/\∃c,v=.slice (some ⟨c,0,none⟩) 41 41/\Sl 9 dX h' v jY):=by
 refine mQx gQO Tryz.func212 λA d=>?_;cbv;intro n a b e;have g:a n=some (.cells (List.toArray (jY.map Value.string)) 9 (0,0)):=by rw[e];exact ae
 have r:Sx.Rows dX a (jY.map Value.string) 0 jY:=by refine⟨by decide,λi x hx=>?_⟩;have P:=(mQB.1 hx).1;show List.take 1 (List.drop (0+i*1) _)=_;rw[mXj,mZM,mQJ (by simpa using P)];rw[mQB]at hx;simp[hx.2]
 have s:Sl 9 dX a (.slice (some ⟨n,0,none⟩) 41 41) jY:=Sl.fresh (xs:=jY) g r (by decide) (by decide);have l:Le h a:=by rw[e];exact Le.set b
 clear g r e;cbv;exact⟨l,n,rfl,s⟩
theorem Gg:Ct 118 [.string s] h (λv h'=>Le h h'/\∃t,v=.bool t/\t=ao s):=by
 refine mQx lZE Tryz.func118 λA o=>?_;have B:A .jO s=(s.size:Int):=by rw[o.jO]
 have J:aS (A .jO s) s.size:=⟨B⟩;have W:∀z i,aS z i->A .byte s z=jg s i:=λz i a=>by
  rw[o.byte];simp only[jg];rw[a.eq];rfl
 generalize k:A .aI .lss (A .jO s) 1=t1;generalize f:A .aI .gtr (A .jO s) 12=t2;generalize l:A .aI .lss (A .byte s 0) 97=t3;generalize m:A .aI .gtr (A .byte s 0) 122=t4;have I:t2=false->s.size<=12:=λe=>by
  rw[e,o.aI,B]at f;have:=mQO f;omega
 have q:BS s= !(t1||t2||t3||t4):=by rw[<-k,<-f,<-l,<-m,W 0 0 ⟨rfl⟩,B,o.aI];rfl
 have Z:t1=false->(0:Int)<=0/\0<(s.size:Int):=λe=>by
  rw[e,o.aI,B]at k;have:=mQO k;omega
 have H:∀(t:Bool) (b:Bool),t=false->BS s=false->t=ao s:=λt b ht hq=>by rw[ht,ao,hq];rfl
 have X:∀(t:Bool),t=true->t=t:=λ_ _=>rfl;cbv;rw[k];cases t1 with
 |true=>cbv;exact⟨Le.refl _,false,rfl,H _ true rfl q⟩
 |false=>
  have M:=Z rfl;cbv;rw[f];cases t2 with
  |true=>cbv;exact⟨Le.refl _,false,rfl,H _ true rfl q⟩
  |false=>
   cbv;refine⟨M,?_⟩;cbv;rw[l];cases t3 with
   |true=>cbv;exact⟨Le.refl _,false,rfl,H _ true rfl q⟩
   |false=>
    cbv;refine⟨M,?_⟩;cbv;rw[m];cases t4 with
    |true=>cbv;exact⟨Le.refl _,false,rfl,H _ true rfl q⟩
    |false=>
     cbv;have Y:BS s=true:=q;have I:=I rfl;clear q k f l m Z H X;refine aX.go (G:=Int) (λz=>[(3,.v (.int .i64 z))]) (λ_=>[]) (λn z h'=>∃i:Nat,aS z i/\n=s.size-i/\i<=s.size/\h'=h/\∀j,j<i->Ec (jg s j)=true) s.size 0 (by constructor<;>cbv) ⟨0,⟨rfl⟩,rfl,by omega,rfl,λj g=>(by omega)⟩ ?_
     intro n z h' hI;cbv;obtain⟨i,a,TD,O,rfl,V⟩:=hI;refine bh (λc=>?_) (λc=>?_)
     .rw[a.iJ (A:=A) J]at c;have P:=mQL c;clear c;cbv;refine⟨a.ix P,?_⟩;cbv;rw[W z i a];generalize Q:jg s i=w;generalize k:A .aI .lss w 97=t1;generalize f:A .aI .gtr w 122=t2;generalize l:A .aI .lss w 48=t3;generalize m:A .aI .gtr w 57=t4;generalize r:A .aI .neq w 95=t5;have R:Ec w= !((t1||t2)&&(t3||t4)&&t5):=by rw[<-k,<-f,<-l,<-m,<-r,o.aI];rfl
      have d:Ec w=false->ao s=false:=λe=>by
       have:BT s=false:=by unfold BT;rw[mJQ];exact⟨i,by simp[P],by rw[Q,e];simp⟩
       rw[ao,this];simp
      have p:Ec w=true->∀j,j<i+1->Ec (jg s j)=true:=λe j g=>by
       rcases mXi j i with h|h
       .exact V j h
       have:j=i:=by omega
       rw[this,Q,e]
      cbv;cases t1 with
      |true=>
       cbv;rw[l];cases t3 with
       |true=>
        cbv;rw[r];cases t5 with
        |true=>cbv;exact⟨Le.refl _,false,rfl,(d (by rw[R];rfl)).symm⟩
        |false=>cbv;exact⟨s.size-(i+1),_,by omega,by constructor<;>cbv,i+1,a.succ (A:=A),rfl,by omega,rfl,p (by rw[R];rfl)⟩
       |false=>
        cbv;rw[m];cases t4 with
        |true=>
         cbv;rw[r];cases t5 with
         |true=>cbv;exact⟨Le.refl _,false,rfl,(d (by rw[R];rfl)).symm⟩
         |false=>cbv;exact⟨s.size-(i+1),_,by omega,by constructor<;>cbv,i+1,a.succ (A:=A),rfl,by omega,rfl,p (by rw[R];rfl)⟩
        |false=>cbv;exact⟨s.size-(i+1),_,by omega,by constructor<;>cbv,i+1,a.succ (A:=A),rfl,by omega,rfl,p (by rw[R];rfl)⟩
      |false=>
       cbv;rw[f];cases t2 with
       |true=>
        cbv;rw[l];cases t3 with
        |true=>
         cbv;rw[r];cases t5 with
         |true=>cbv;exact⟨Le.refl _,false,rfl,(d (by rw[R];rfl)).symm⟩
         |false=>cbv;exact⟨s.size-(i+1),_,by omega,by constructor<;>cbv,i+1,a.succ (A:=A),rfl,by omega,rfl,p (by rw[R];rfl)⟩
        |false=>
         cbv;rw[m];cases t4 with
         |true=>
          cbv;rw[r];cases t5 with
          |true=>cbv;exact⟨Le.refl _,false,rfl,(d (by rw[R];rfl)).symm⟩
          |false=>cbv;exact⟨s.size-(i+1),_,by omega,by constructor<;>cbv,i+1,a.succ (A:=A),rfl,by omega,rfl,p (by rw[R];rfl)⟩
         |false=>cbv;exact⟨s.size-(i+1),_,by omega,by constructor<;>cbv,i+1,a.succ (A:=A),rfl,by omega,rfl,p (by rw[R];rfl)⟩
       |false=>cbv;exact⟨s.size-(i+1),_,by omega,by constructor<;>cbv,i+1,a.succ (A:=A),rfl,by omega,rfl,p (by rw[R];rfl)⟩
     rw[a.iJ (A:=A) J]at c;have lN:=mQO c;cbv;have U:BT s=true:=by unfold BT;rw[mXq];intro j g;rw[mJl]at g;exact V j (by omega)
     refine(bKT h').mono (λv h2 hR=>?_);obtain⟨T,nb,rfl,ql⟩:=hR;cbv;refine aX.go (G:=Int) (λz=>[(6,.v (.int .i64 z))]) (λ_=>[]) (λn z N=>∃i:Nat,aS z i/\n=41-i/\i<=41/\N=h2/\∀j,j<i->∀y,jY[j]? =some y->y≠s) 41 0 (by constructor<;>cbv) ⟨0,⟨rfl⟩,by omega,by omega,rfl,λj g=>(by omega)⟩ ?_
     intro n2 z2 N cD;cbv;obtain⟨u,L,mY,ab,rfl,K⟩:=cD;refine bh (λc=>?_) (λc=>?_)
     .have S:=L.lt c;clear c;cbv;obtain⟨x,hx⟩:=aE (xs:=jY) (i:=u) S;refine⟨⟨rfl,L.ix S⟩,?_⟩;cbv;refine ql.load hx L.eq (λcs D=>?_);have D:cs=[.string x]:=D;subst D;cbv;rw[cS A];by_cases C:x=s
      .rw[mQu C];have E:vL s=true:=vK.2 (by rw[<-C];exact mQz hx);cbv;exact⟨T,false,rfl,by rw[ao,E];simp⟩
      rw[mQv C];cbv;refine⟨41-(u+1),_,by omega,by constructor<;>cbv,u+1,L.succ (A:=A),rfl,by omega,rfl,?_⟩
      intro j g y F;rcases mXi j u with h|h
      .exact K j h y F
      have:j=u:=by omega
      subst this;rw[hx]at F;cases F;exact C
     have af:=L.ge c;have E:vL s=false:=by
      cases O:vL s with
      |false=>rfl
      |true=>have hm:=vK.1 O;obtain⟨j,g⟩:=mXh hm;have tX:j<41:=(mQB.1 g).1;exact absurd rfl (K j (by omega) s g)
     cbv;exact⟨T,true,rfl,by rw[ao,Y,U,E];rfl⟩
theorem cXE(q:Sl 155 bI h (.slice b n c) cols){nm:ByteArray}{k:Int}:
 Ct 34 [.agg #[.string nm,.slice b n c,.int .i64 k,.bool only],.string s] h (λv h'=>Le h h'/\∃z t l,v=.tuple #[.int .i64 z,.bool t]/\vg cols (λx=>decide (x.name=s)) l/\z=max l 0/\t=decide (l>=0)):=by
 have p:=q.len;obtain⟨Y,E⟩:=q.bound;refine mQx lKV Tryz.func34 λA w=>?_;cbv;refine aX.go (G:=Int) (λz=>[(6,.v (.int .i64 z))]) (λ_=>[(2,[.string nm,.slice b n c,.int .i64 k,.bool only])]) (λm z h'=>∃i:Nat,aS z i/\m=n-i/\i<=n/\h'=h/\∀j,j<i->∀y,cols[j]? =some y->decide (y.name=s)=false) n 0 (by constructor<;>cbv) ⟨0,⟨rfl⟩,by omega,by omega,rfl,λj e=>(by omega)⟩ ?_
 intro m z h' I;cbv;obtain⟨i,a,D,B,rfl,V⟩:=I;refine bh (λd=>?_) (λd=>?_)
 .have P:=a.lt d;clear d;cbv;obtain⟨x,hx⟩:=mQA cols i;refine⟨⟨q.aT,a.ix P⟩,?_⟩;cbv;refine q.cC hx a.eq (o:=0) (m:=1) (by decide) (λcs f=>?_);have f:cs=[.string x.name,.int .i64 x.kind,.bool x.null]:=f;subst f;cbv;rw[cS A];by_cases C:x.name=s
  .rw[mQu C];have hR:vg cols (λx=>decide (x.name=s)) z:=⟨.inr ⟨i,x,a,hx,by simpa using C,V⟩⟩;have M:=a.eq;have r:z=max z 0:=by omega
   have u:true=decide (z>=0):=by rw[mQu (by omega)]
   cbv;exact⟨Le.refl _,z,true,z,rfl,hR,r,u⟩
  rw[mQv C];cbv;refine⟨n-(i+1),_,by omega,by constructor<;>cbv,i+1,a.succ (A:=A),rfl,by omega,rfl,?_⟩
  intro j e y g;rcases mXi j i with T|T
  .exact V j T y g
  have:j=i:=by omega
  subst this;rw[hx]at g;cases g;exact mQv C
 have N:=a.ge d;have hR:vg cols (λx=>decide (x.name=s)) (-1):=⟨.inl ⟨rfl,λx hx=>by
  obtain⟨j,e⟩:=mXh hx;have:=(mQB.1 e).1;exact V j (by omega) x e⟩⟩
 cbv;exact⟨Le.refl _,0,false,-1,rfl,hR,rfl,rfl⟩
theorem dJo{c:cK}(a:cols[i]? =some c)(r:vg cols (λx=>decide (x.name=c.name)) z):
 decide (max z 0≠(i:Int))=(cols.take i).any λx=>decide (x.name=c.name):=by
 have b:=aJV a r;rw[<-b,decide_eq_decide];rcases r.out with⟨-,h⟩|⟨k,x,d,hx,p,V⟩
 .have:=h c (mQz a);simp at this
 have e:=d.eq;have K:¬i<k:=λh=>by have:=V i h c a;simp at this
 omega
theorem bXj{nm:ByteArray}(q:Sl 155 bI h (.slice b n c) cols):
 Ct 102 [.agg #[.string nm,.slice b n c,.int .i64 key,.bool only]] h (λv h'=>Le h h'/\∃z,v=.int .i64 z/\z=kE ⟨nm,cols,key,only⟩):=by
 obtain⟨A,C⟩:=Ar.ex;have D:=q.len;obtain⟨lY,jq⟩:=q.bound;have kP:A .not true=false:=by rw[C.not];rfl
 have tF:A .not false=true:=by rw[C.not];rfl
 generalize s:A .aI .lss (A .nat n) 1=u1;generalize u:A .aI .gtr (A .nat n) 6=u2;generalize O:A .aI .lss key 0=u3;generalize B:A .aI .geq key (A .nat n)=W;have f1:=s;have f2:=u;have Y:=O;have Z:=B;rw[bm A,C.nat]at s;rw[bO A,C.nat]at u;rw[bm A]at O;rw[cf A,C.nat]at B;simp only[mQV]at s u B;rw[D]at s u B;obtain⟨E,hE⟩:∃E,E=kE ⟨nm,cols,key,only⟩:=⟨_,rfl⟩;have S:E=if(!ao nm)=true then 12 else if(u1||u2)=true then 4 else if lJ cols≠0 then lJ cols else if(u3||W)=true then 1 else if((cols[key.toNat]?).map (·.null)).getD false=true then 13 else 0:=by rw[hE,<-s,<-u,<-O,<-B];rfl
 rw[<-hE];refine mQF cJd A Tryz.func102 ?_;cbv;refine Gg.mono (λv h1 hR=>?_);obtain⟨L,t,rfl,ht⟩:=hR;rw[<-ht]at S;cases t with
 |false=>cbv;rw[tF];cbv;exact⟨L,12,rfl,S.symm⟩
 |true=>
  cbv;rw[kP];cbv;rw[f1];cases u1 with
  |true=>cbv;exact⟨L,4,rfl,S.symm⟩
  |false=>
   cbv;rw[f2];cases u2 with
   |true=>cbv;exact⟨L,4,rfl,S.symm⟩
   |false=>
    have S:E=if lJ cols≠0 then lJ cols else if(u3||W)=true then 1 else if((cols[key.toNat]?).map (·.null)).getD false=true then 13 else 0:=S
    cbv;refine aX.go (G:=Int) (λz=>[(3,.v (.int .i64 z))]) (λ_=>[(1,[.string nm,.slice b n c,.int .i64 key,.bool only])]) (λm z h'=>∃i:Nat,aS z i/\m=n-i/\i<=n/\Le h h'/\∀j,j<i->∀y,cols[j]? =some y->iy cols j y=0) n 0 (by constructor<;>cbv) ⟨0,⟨rfl⟩,by omega,by omega,L,λj hj=>(by omega)⟩ ?_
    intro m z h' hI;cbv;obtain⟨i,r,hm,hi,e,V⟩:=hI;refine bh (λI=>?_) (λI=>?_)
    .have aP:=r.lt I;clear I;obtain⟨x,hx⟩:=mQA cols i;have J:b.isSome=true/\0<=z/\z<(n:Int):=⟨q.aT,r.ix aP⟩;have p:∀ {hh:ad} (w:Int),Le h hh->iy cols i x=w->w≠0->Le h hh/\∃z,Value.int .i64 w=.int .i64 z/\z=E:=λw l X hw=>by
      refine⟨l,w,rfl,?_⟩;have:=ID hx V (by rw[X];exact hw);rw[S,this,X,if_pos hw]
     have pO:∀(H:ad),Le h H->iy cols i x=0->∃j:Nat,aS (A .bB .add .i64 z 1) j/\n-(i+1)=n-j/\j<=n/\Le h H/\∀U,U<j->∀y,cols[U]? =some y->iy cols U y=0:=λH l e0=>
      ⟨i+1,r.succ (A:=A),rfl,by omega,l,λj hj y F=>by
       rcases mXi j i with nT|nT
       .exact V j nT y F
       have:j=i:=by omega
       subst this;rw[hx]at F;cases F;exact e0⟩
     obtain⟨f,k,d⟩:=x;cbv;refine⟨J,?_⟩;cbv;refine(q.mono (e.t _)).cC hx r.eq (o:=0) (m:=1) (by decide) (λcs a=>?_);have a:cs=[.string f,.int .i64 k,.bool d]:=a;subst a;cbv;refine(cXE (q.mono (e.t _))).mono (λv H hR=>?_);obtain⟨l2,zk,tk,ab,rfl,kR,Ba,ND⟩:=hR;have K:=e.trans l2;have M:=dJo hx kR;rw[<-Ba]at M;generalize P:A .aI .neq zk z=w1;have k1:=P;rw[aC A,r.eq]at P;rw[P]at M;generalize R:A .aI .lss k 1=w2;generalize T:A .aI .gtr k 3=w3;have k2:=R;have k3:=T;rw[bm A]at R;rw[bO A]at T;cbv;refine⟨J,?_⟩;cbv;refine(q.mono (K.t _)).cC hx r.eq (o:=0) (m:=1) (by decide) (λcs a=>?_);have a:cs=[.string f,.int .i64 k,.bool d]:=a;subst a;cbv;refine Gg.mono (λv h3 hR=>?_);obtain⟨l3,tn,rfl,HR⟩:=hR;have Q:=K.trans l3;have key:iy cols i ⟨f,k,d⟩=if(!tn||w1)=true then 12 else if(w2||w3)=true then 3 else 0:=by rw[HR,M,<-R,<-T];rfl
     cases tn with
     |false=>have key:iy cols i ⟨f,k,d⟩=12:=key;cbv;rw[tF];cbv;exact p 12 Q key (by omega)
     |true=>
      cbv;rw[kP];cbv;rw[k1];cases w1 with
      |true=>have key:iy cols i ⟨f,k,d⟩=12:=key;cbv;exact p 12 Q key (by omega)
      |false=>
       cbv;refine⟨J,?_⟩;cbv;refine(q.mono (Q.t _)).cC hx r.eq (o:=1) (m:=1) (by decide) (λcs a=>?_);have a:cs=[.string f,.int .i64 k,.bool d]:=a;subst a;cbv;rw[k2];cases w2 with
       |true=>have key:iy cols i ⟨f,k,d⟩=3:=key;cbv;exact p 3 Q key (by omega)
       |false=>
        cbv;refine⟨J,?_⟩;cbv;refine(q.mono (Q.t _)).cC hx r.eq (o:=1) (m:=1) (by decide) (λcs a=>?_);have a:cs=[.string f,.int .i64 k,.bool d]:=a;subst a;cbv;rw[k3];cases w3 with
        |true=>have key:iy cols i ⟨f,k,d⟩=3:=key;cbv;exact p 3 Q key (by omega)
        |false=>
         have key:iy cols i ⟨f,k,d⟩=0:=key;have g:=pO h3 Q key;cbv;refine⟨n-(i+1),_,by omega,by constructor<;>cbv,g⟩
    have lN:=r.ge I;have N:lJ cols=0:=Dd (λj hj y F=>V j (by omega) y F);rw[N,if_neg (by simp)]at S;cbv;rw[Y];cases u3 with
    |true=>cbv;exact⟨e,1,rfl,S.symm⟩
    |false=>
     cbv;rw[Z];cases W with
     |true=>cbv;exact⟨e,1,rfl,S.symm⟩
     |false=>
      obtain⟨vm,sJ⟩:=SX A Y Z;obtain⟨x,hx⟩:=mQA cols key.toNat;have J:b.isSome=true/\0<=key/\key<(n:Int):=⟨q.aT,vm.ix sJ⟩;rw[hx]at S;obtain⟨f,k,d⟩:=x;cbv;refine⟨J,?_⟩;cbv;refine(q.mono (e.t _)).cC hx vm.eq (o:=2) (m:=1) (by decide) (λcs a=>?_);have a:cs=[.string f,.int .i64 k,.bool d]:=a;subst a;cases d with
      |true=>cbv;exact⟨e,13,rfl,S.symm⟩
      |false=>cbv;exact⟨e,0,rfl,S.symm⟩
def kD:Sh fJ where
 n:=3
 R h cs t:=∃b1 n1 c1 b2 n2 c2,cs=[.int .i64 t.s,.slice b1 n1 c1,.slice b2 n2 c2]/\Sl 137 dI h (.slice b1 n1 c1) t.log/\Sl 151 dN h (.slice b2 n2 c2) t.marks
 len:=by rintro h cs x ⟨_,_,_,_,_,_,rfl,-⟩;rfl
 one:=by rintro h cs x ⟨_,_,_,_,_,_,rfl,-⟩;rfl
 tys:=[137,86,151]
 mono:=by rintro h h' cs x hl ⟨b1,n1,c1,b2,n2,c2,rfl,q1,q2⟩;exact⟨b1,n1,c1,b2,n2,c2,rfl,q1.mono (hl.sub),q2.mono (hl.sub)⟩
structure RP(h:ad)(b1:Option Addr)(n1 c1:Nat)(b2:Option Addr)(n2 c2:Nat)(b3:Option Addr)(n3 c3:Nat)(b4:Option Addr)(n4 c4:Nat)(d:DB):Prop where
 az:Sl 145 ef h (.slice b1 n1 c1) d.az
 aq:Sl 134 kD h (.slice b2 n2 c2) d.aq
 holds:Sl 224 bG h (.slice b3 n3 c3) d.holds
 waits:Sl 224 bG h (.slice b4 n4 c4) d.waits
theorem RP.lt{a c e:Option Addr}{f k g m:Nat}(q:RP h b n f a k g c m i e o j d)(l:bR [145,155,84,86,134,137,151,224] h h'):RP h' b n f a k g c m i e o j d:=
 ⟨q.az.mono (l.sub),q.aq.mono (l.sub),q.holds.mono (l.sub),q.waits.mono (l.sub)⟩
theorem RP.mono{a c e:Option Addr}{f k g m:Nat}(q:RP h b n f a k g c m i e o j d)(l:Le h h'):RP h' b n f a k g c m i e o j d:=q.lt (l.t _)
theorem IE{a b:List UInt8}:∀ {i:Nat},i<=a.length->i<=b.length->(∀j,j<i->a[j]? =b[j]?)->Lib.compareBytes a b=Lib.compareBytes (a.drop i) (b.drop i)
 |0,_,_,_=>rfl
 |i+1,h,c,V=>by
  cases a with
  |nil=>simp at h
  |cons x a=>
   cases b with
   |nil=>simp at c
   |cons y b=>
    have h0:x=y:=by have:=V 0 (by omega);simpa using this
    subst h0;have:Lib.compareBytes (x::a) (x::b)=Lib.compareBytes a b:=by simp[Lib.compareBytes]
    rw[this,mJB,mJB];exact IE (by simpa using h) (by simpa using c) (λj d=>by have:=V (j+1) (by omega);simpa using this)
theorem bXt{a b:ByteArray}(T:a.size<=2^60):Ct 104 [.string a,.string b] h (λv h'=>Le h h'/\∃t,v=.bool t/\t=decide (eC a b<0)):=by
 obtain⟨A,o⟩:=Ar.ex;have X:aS (A .jO a) a.size:=⟨by rw[o.jO]⟩;have Y:aS (A .jO b) b.size:=⟨by rw[o.jO]⟩;have Q:a.data.toList.length=a.size:=by rw[mZJ];rfl
 have U:b.data.toList.length=b.size:=by rw[mZJ];rfl
 have K:∀(s:ByteArray) (i:Nat),i<s.size->∃x:UInt8,s.data.toList[i]? =some x/\jg s i=(x.toNat:Int):=λs i L=>by
  have C:i<s.data.size:=L;refine⟨s.data[i],by simp[C],?_⟩;simp[jg,mZk C]
 have R:∀s z i,aS z i->A .byte s z=jg s i:=λs z i c=>by
  rw[o.byte];simp only[jg];rw[c.eq];rfl
 refine mQF gZk A Tryz.func104 ?_;cbv;refine aX.go (G:=Int) (λz=>[(5,.v (.int .i64 z))]) (λ_=>[]) (λm z h'=>∃i:Nat,aS z i/\m=a.size-i/\i<=a.size/\i<=b.size/\h'=h/\∀j,j<i->a.data.toList[j]? =b.data.toList[j]?) a.size 0 (by constructor<;>cbv) ⟨0,⟨rfl⟩,by omega,by omega,by omega,rfl,λj N=>(by omega)⟩ ?_
 intro m z h' I;cbv;obtain⟨i,c,hm,S,O,rfl,V⟩:=I;have Z:=IE (a:=a.data.toList) (b:=b.data.toList) (i:=i) (by omega) (by omega) V;have g:A .aI .lss z (A .jO a)=decide (i<a.size):=c.iJ X;have k:A .aI .lss z (A .jO b)=decide (i<b.size):=c.iJ Y;have w:A .aI .lss (A .jO a) (A .jO b)=decide (a.size<b.size):=X.iJ Y;by_cases l:i<a.size
 .rw[mQu l]at g;rw[g];cbv;by_cases n:i<b.size
  .rw[mQu n]at k;rw[k];obtain⟨x,hx,J⟩:=K a i l;obtain⟨y,B,d⟩:=K b i n;have M:a.data.toList.drop i=x::a.data.toList.drop (i+1):=by rw[mQJ (by omega)];rw[(mQB.1 hx).2]
   have D:b.data.toList.drop i=y::b.data.toList.drop (i+1):=by rw[mQJ (by omega)];rw[(mQB.1 B).2]
   rw[M,D]at Z;have p:(0:Int)<=z/\z<(a.size:Int):=c.ix l;have q:(0:Int)<=z/\z<(b.size:Int):=c.ix n;have F:A .aI .neq (A .byte a z) (A .byte b z)=decide (x≠y):=by
    rw[R a z i c,R b z i c,aC A,J,d,decide_eq_decide];refine not_congr ?_;constructor
    .intro e;exact mZg.1 (nQM.1 e)
    rintro rfl;rfl
   have H:A .aI .lss (A .byte a z) (A .byte b z)=decide (x<y):=by rw[R a z i c,R b z i c,bm A,J,d,decide_eq_decide,mZI];exact Int.ofNat_lt
   cbv;refine⟨p,?_⟩;cbv;refine⟨q,?_⟩;cbv;rw[F];by_cases u:x=y
   .rw[mQv (by simp[u])];cbv;refine⟨a.size-(i+1),_,by omega,by constructor<;>cbv,i+1,c.succ (A:=A),rfl,by omega,by omega,rfl,?_⟩
    .intro j N;rcases mXi j i with h|h
     .exact V j h
     have:j=i:=by omega
     rw[this,hx,B,u]
   rw[mQu (by simpa using u)];have f:decide (x<y)=decide (eC a b<0):=by
    unfold eC;rw[Z];simp only[Lib.compareBytes];by_cases P:x<y
    .simp[P]
    have:y<x:=by rw[mZI]at P |-;have:x.toNat≠y.toNat:=λe=>u (mZg.1 e);omega
    simp[P,this]
   cbv;refine⟨p,?_⟩;cbv;refine⟨q,?_⟩;cbv;rw[H];exact⟨Le.refl _,_,rfl,f⟩
  rw[mQv n]at k;rw[k];have E:b.data.toList.drop i=[]:=mXB (by omega);have f:decide (a.size<b.size)=decide (eC a b<0):=by
   unfold eC;rw[Z,E];have:a.data.toList.drop i≠[]:=by intro e;have:=congrArg List.length e;rw[mXg]at this;simp at this;omega
   cases hd:a.data.toList.drop i with
   |nil=>exact absurd hd this
   |cons x r=>simp only[Lib.compareBytes];rw[mQv (by omega)];rfl
  cbv;rw[w];exact⟨Le.refl _,_,rfl,f⟩
 rw[mQv l]at g;rw[g];have W:a.data.toList.drop i=[]:=mXB (by omega);have f:decide (a.size<b.size)=decide (eC a b<0):=by
  unfold eC;rw[Z,W];cases hd:b.data.toList.drop i with
  |nil=>have:=congrArg List.length hd;rw[mXg]at this;simp at this;simp only[Lib.compareBytes];rw[mQv (by omega)];rfl
  |cons y r=>have:=congrArg List.length hd;rw[mXg]at this;simp at this;simp only[Lib.compareBytes];rw[mQu (by omega)];rfl
 cbv;rw[w];exact⟨Le.refl _,_,rfl,f⟩
theorem Ev{e f g k:Option Addr}{l u w p B r:Nat}(q:RP h e n l f u o g w p k B r d){nm:ByteArray}:
 Ct 103 [.agg #[.slice e n l,.slice f u o,.slice g w p,.slice k B r],.string nm] h (λv h'=>Le h h'/\∃z,v=.int .i64 z/\vg d.az (λt=>decide (t.S.name=nm)) z):=by
 have D:=q.az.len;have M:=q.az.bound;refine mQx cJc Tryz.func103 λA F=>?_;cbv;refine aX.go (G:=Int) (λz=>[(5,.v (.int .i64 z))]) (λ_=>[(2,[.slice e n l,.slice f u o,.slice g w p,.slice k B r])]) (λm z h'=>∃i:Nat,aS z i/\m=n-i/\i<=n/\h'=h/\∀j,j<i->∀y,d.az[j]? =some y->decide (y.S.name=nm)=false) n 0 (by constructor<;>cbv) ⟨0,⟨rfl⟩,by omega,by omega,rfl,λj b=>(by omega)⟩ ?_
 intro m z h' I;cbv;obtain⟨i,a,J,H,rfl,V⟩:=I;refine bh (λc=>?_) (λc=>?_)
 .have P:=a.lt c;clear c;cbv;obtain⟨x,hx⟩:=mQA d.az i;refine⟨⟨q.az.aT,a.ix P⟩,?_⟩;cbv;refine q.az.Ee hx a.eq (o1:=0) (o2:=0) (m:=1) (by decide) (λcs E=>?_);obtain⟨_,_,_,_,_,_,rfl,-,-⟩:=E;cbv;rw[cS A];by_cases C:x.S.name=nm
  .rw[mQu C];have hR:vg d.az (λt=>decide (t.S.name=nm)) z:=⟨.inr ⟨i,x,a,hx,by simpa using C,V⟩⟩;cbv;exact⟨Le.refl _,z,rfl,hR⟩
  rw[mQv C];cbv;refine⟨n-(i+1),_,by omega,by constructor<;>cbv,i+1,a.succ (A:=A),rfl,by omega,rfl,?_⟩
  intro j b y s;rcases mXi j i with T|T
  .exact V j T y s
  have:j=i:=by omega
  subst this;rw[hx]at s;cases s;exact mQv C
 have N:=a.ge c;have hR:vg d.az (λt=>decide (t.S.name=nm)) (-1):=⟨.inl ⟨rfl,λx hx=>by
  obtain⟨j,b⟩:=mXh hx;have:=(mQB.1 b).1;exact V j (by omega) x b⟩⟩
 cbv;exact⟨Le.refl _,-1,rfl,hR⟩
theorem cQo{a:Type}{xs:List a}{p:a->Bool}(q:vg xs p z):decide (z>=0)=xs.any p:=by
 rcases q.out with⟨rfl,h⟩|⟨i,x,c,hx,b,-⟩
 .rw[eq_comm];simpa using h
 have:=c.eq;rw[mQu (by omega),eq_comm,mJf];exact⟨x,mQz hx,b⟩
def fO(T:List cW)(nm:ByteArray):Nat:=(T.takeWhile λt=>decide (eC t.S.name nm<0)).length
def iC(d:DB)(s:FR):DB×Int:=
 if decide (kE s≠0)=true then(d,kE s)
 else if d.az.any (λt=>decide (t.S.name=s.name))=true then(d,7)
 else if decide ((d.az.length:Int)>=8)=true then(d,4)
 else if decide ((d.aq.length:Int)>0)=true then(d,18)
 else(tm d (d.az.take (fO d.az s.name)++[⟨s,[]⟩]++d.az.drop (fO d.az s.name)),0)
abbrev RK(h:ad)(d':DB)(e:Int)(k:Value->ad->Prop):Prop:=
 ∀h' b1 n1 c1 b2 n2 c2 b3 n3 c3 b4 n4 c4,Le h h'->RP h' b1 n1 c1 b2 n2 c2 b3 n3 c3 b4 n4 c4 d'->k (.tuple #[.agg #[.slice b1 n1 c1,.slice b2 n2 c2,.slice b3 n3 c3,.slice b4 n4 c4],.int .i64 e]) h'
theorem Sd{c:Type}{p:c->Bool}:∀ {xs:List c} {i:Nat},(∀j,j<i->∀y,xs[j]? =some y->p y=true)->i<=xs.length->(i<xs.length->∃y,xs[i]? =some y/\p y=false)->(xs.takeWhile p).length=i
 | [],i,_,a,_=>by simp at a;simp[a]
 |x::r,0,_,_,s=>by
  obtain⟨y,b,d⟩:=s (by simp);simp at b;subst b;simp[d]
 |x::r,i+1,V,a,s=>by
  have hx:=V 0 (by omega) x rfl;rw[mJz hx,mQM];rw[Sd (xs:=r) (i:=i) (λj e y b=>V (j+1) (by omega) y (by simpa using b)) (by simpa using a) (λh=>by simpa using s (by simpa using h))]
theorem Yj{H p r u:Option Addr}{b e w E B F C:Nat}(q:RP h H b e p o w r E B u F C d){nm:ByteArray}{sb:Option Addr}{sn sc:Nat}(qs:Sl 155 bI h (.slice sb sn sc) cols)
 (hl:d.az.length<=2^37) (al:∀t∈d.az,t.S.name.size<=2^60)  (a:iC d ⟨nm,cols,key,only⟩=D)  (N:RK h D.1 D.2 k):
 Ct 37 [.agg #[.slice H b e,.slice p o w,.slice r E B,.slice u F C],.agg #[.string nm,.slice sb sn sc,.int .i64 key,.bool only]] h k:=by
 obtain⟨A,hA⟩:=Ar.ex;have W:=q.az.len;have sM:=q.az.bound;have Jv:=q.aq.len;unfold iC at a;generalize g:A .aI .geq (A .nat b) 8=u8;generalize Q:A .aI .gtr (A .nat o) 0=Y;have R:=g;have ak:=Q;rw[cf A,hA.nat]at g;rw[bO A,hA.nat]at Q;simp only[mQV]at g Q;rw[W]at g;rw[Jv]at Q;rw[g,Q]at a;refine mQF jKL A Tryz.func37 ?_;cbv;refine(bXj (nm:=nm) (key:=key) (only:=only) qs).mono (λv h1 hR=>?_);obtain⟨l1,ze,X,an⟩:=hR;rw[X];rw[<-an]at a;generalize e0:A .aI .neq ze 0=u0;have f0:=e0;rw[aC A]at e0;rw[e0]at a;cbv;rw[f0];cases u0 with
 |true=>have a:(d,ze)=D:=a;have f:=N h1 H b e p o w r E B u F C l1 (by rw[<-a];exact q.mono l1);rw[<-a]at f;cbv;exact f
 |false=>
  cbv;refine(Ev (q.mono l1)).mono (λv h2 hR=>?_);obtain⟨l2,zf,X,kR⟩:=hR;rw[X];have I:=l1.trans l2;have ua:=cQo kR;generalize e7:A .aI .geq zf 0=u7;have f7:=e7;rw[cf A]at e7;rw[e7]at ua;have a:(if d.az.any (λt=>decide (t.S.name=nm))=true then(d,7)else if u8=true then(d,4)else if Y=true then(d,18)
   else(tm d (d.az.take (fO d.az nm)++[⟨⟨nm,cols,key,only⟩,[]⟩]++d.az.drop (fO d.az nm)),0))=D:=a
  rw[<-ua]at a;cbv;rw[f7];cases u7 with
  |true=>have a:(d,7)=D:=a;have f:=N h2 H b e p o w r E B u F C I (by rw[<-a];exact q.mono I);rw[<-a]at f;cbv;exact f
  |false=>
   cbv;rw[R];cases u8 with
   |true=>have a:(d,4)=D:=a;have f:=N h2 H b e p o w r E B u F C I (by rw[<-a];exact q.mono I);rw[<-a]at f;cbv;exact f
   |false=>
    cbv;rw[ak];cases Y with
    |true=>have a:(d,18)=D:=a;have f:=N h2 H b e p o w r E B u F C I (by rw[<-a];exact q.mono I);rw[<-a]at f;cbv;exact f
    |false=>
     have a:(tm d (d.az.take (fO d.az nm)++[⟨⟨nm,cols,key,only⟩,[]⟩]++d.az.drop (fO d.az nm)),0)=D:=a;cbv;refine aX.go (G:=Int) (λz=>[(7,.v (.int .i64 z))]) (λ_=>[(2,[.slice H b e,.slice p o w,.slice r E B,.slice u F C]),(3,[.string nm,.slice sb sn sc,.int .i64 key,.bool only]),(4,[.slice none 0 0,.slice none 0 0,.slice none 0 0,.slice none 0 0])])
      (λm z h'=>∃i:Nat,aS z i/\m=b-i/\i<=b/\Le h h'/\∀j,j<i->∀y,d.az[j]? =some y->decide (eC y.S.name nm<0)=true) b 0 ⟨?_,?_,?_⟩ ⟨0,⟨rfl⟩,by omega,by omega,I,λj hj=>(by omega)⟩ ?_
     .cbv
     .cbv
     .cbv
     intro m z h' hI;cbv;obtain⟨i,c,hm,hi,l,aV⟩:=hI;have g1:A .aI .lss z (A .nat b)=decide (i<b):=c.iJ (aS.nat b);rw[g1];rcases mXi i b with aP|lN
     .rw[mQu aP];have JA:=c.ix aP;obtain⟨x,hx⟩:=mQA d.az i;have qh:=q.mono l;cbv;refine⟨⟨qh.az.aT,JA⟩,?_⟩;cbv;refine qh.az.Ee hx c.eq (o1:=0) (o2:=0) (m:=1) (by decide) (λcs ay=>?_);obtain⟨_,_,_,_,_,_,rfl,-,-⟩:=ay;cbv;refine(bXt (al x (mQz hx))).mono (λv h3 hR=>?_);obtain⟨l3,t,X,ht⟩:=hR;rw[X];have DE:=l.trans l3;cbv;cases t with
      |true=>
       cbv;refine⟨b-(i+1),_,by omega,by constructor<;>cbv,i+1,c.succ (A:=A),rfl,by omega,DE,?_⟩
       intro j hj y hy;rcases mXi j i with nT|nT
       .exact aV j nT y hy
       have:j=i:=by omega
       subst this;rw[hx]at hy;cases hy;exact ht.symm
      |false=>
       have PM:fO d.az nm=i:=Sd aV (by omega) (λ_=>⟨x,hx,ht.symm⟩);have M:=q.mono DE;have U:A .su z 0=i:=fh (A:=A) c;obtain⟨ag,ab⟩:=sM;have qA:0<=z/\z<=(e:Int):=by have:=c.eq;omega
       have nP:0<=z/\z<=(b:Int):=by have:=c.eq;omega
       have P:i<=b:=hi;cbv;intro n6 T g6 e6;have Z:Le h3 T:=by rw[e6];exact Le.set g6
       have q6:=M.mono Z;cbv;refine⟨qA,?_⟩;cbv;have lV:cF 145 ef h3 T (.slice (some ⟨n6,0,none⟩) 0 0) ([]:List cW):=cF.nil;refine lV.append (q6.az.sU (A:=A) (s:=ef) (z:=A .nat e) P U U) (by decide) rfl (by decide) (by rw[U];omega) Z (λm7 b7 c7 h7 Nj l7 t7 k7 mP=>?_);cbv;intro n8 V g8 g;have L:Le h7 V:=by rw[g];exact Le.set g8
       have R:=(congrFun g n8).trans ae;have r8:ef.R V [.string nm,.slice sb sn sc,.int .i64 key,.bool only,.slice none 0 0] ⟨⟨nm,cols,key,only⟩,[]⟩:=⟨_,_,_,_,_,_,rfl,qs.mono ((DE.trans (l7.trans L)).t _),Sl.nil⟩;have v8:=bA (s:=ef) R r8;cbv;refine(mP.mono (L.t _)).append v8 (by decide) rfl (by decide) (by omega) (l7.trans L) (λm9 b9 c9 h9 aj l9 t9 k9 vo=>?_);have q9:=M.mono l9;have O:=gA (A:=A) c (n:=b);cbv;refine⟨nP,?_⟩;cbv;refine vo.append (q9.az.uW (A:=A) (s:=ef) c P O (c':=e-i) rfl) (by decide) rfl (by decide) (by rw[O];omega) l9 (λGh gW gT fL wH S ar yS jN=>?_);have K:=jN.sl;rw[mZn]at K;rw[PM]at a;have J:=M.mono S;have hL:=DE.trans S;have f:=N fL gW Gh gT p o w r E B u F C hL (by rw[<-a];exact⟨K,J.aq,J.holds,J.waits⟩);rw[<-a]at f;cbv;exact f
     rw[mQv (by omega)];have PM:fO d.az nm=i:=Sd aV (by omega) (λh=>by omega);have M:=q.mono l;have U:A .su z 0=i:=fh (A:=A) c;obtain⟨ag,ab⟩:=sM;have qA:0<=z/\z<=(e:Int):=by have:=c.eq;omega
     have nP:0<=z/\z<=(b:Int):=by have:=c.eq;omega
     have P:i<=b:=hi;cbv;intro n6 T g6 e6;have Z:Le h' T:=by rw[e6];exact Le.set g6
     have q6:=M.mono Z;cbv;refine⟨qA,?_⟩;cbv;have lV:cF 145 ef h' T (.slice (some ⟨n6,0,none⟩) 0 0) ([]:List cW):=cF.nil;refine lV.append (q6.az.sU (A:=A) (s:=ef) (z:=A .nat e) P U U) (by decide) rfl (by decide) (by rw[U];omega) Z (λm7 b7 c7 h7 Nj l7 t7 k7 mP=>?_);cbv;intro n8 V g8 g;have L:Le h7 V:=by rw[g];exact Le.set g8
     have R:=(congrFun g n8).trans ae;have r8:ef.R V [.string nm,.slice sb sn sc,.int .i64 key,.bool only,.slice none 0 0] ⟨⟨nm,cols,key,only⟩,[]⟩:=⟨_,_,_,_,_,_,rfl,qs.mono ((l.trans (l7.trans L)).t _),Sl.nil⟩;have v8:=bA (s:=ef) R r8;cbv;refine(mP.mono (L.t _)).append v8 (by decide) rfl (by decide) (by omega) (l7.trans L) (λm9 b9 c9 h9 aj l9 t9 k9 vo=>?_);have q9:=M.mono l9;have O:=gA (A:=A) c (n:=b);cbv;refine⟨nP,?_⟩;cbv;refine vo.append (q9.az.uW (A:=A) (s:=ef) c P O (c':=e-i) rfl) (by decide) rfl (by decide) (by rw[O];omega) l9 (λGh gW gT fL wH S ar yS jN=>?_);have K:=jN.sl;rw[mZn]at K;rw[PM]at a;have J:=M.mono S;have hL:=l.trans S;have f:=N fL gW Gh gT p o w r E B u F C hL (by rw[<-a];exact⟨K,J.aq,J.holds,J.waits⟩);rw[<-a]at f;cbv;exact f
def pX:Nat->DB
 |0=>⟨[],[],[],[]⟩
 |i+1=>(rh (pX i) (aF i)).1
def oK:Nat->DB
 |0=>⟨[],[],[],[]⟩
 |i+1=>(iC (oK i) (aF i)).1
def dZ(i:Nat):cW:=⟨aF i,[]⟩
def eY:DB:=⟨[dZ 0,dZ 1,dZ 2],[],[],[]⟩
theorem bJP:pX 1=⟨[dZ 0],[],[],[]⟩:=by cbv
theorem bJO:pX 2=⟨[dZ 0,dZ 1],[],[],[]⟩:=by cbv
theorem LM:pX 3=eY:=by cbv
theorem bJN:oK 1=⟨[dZ 0],[],[],[]⟩:=by cbv
theorem bJM:oK 2=⟨[dZ 0,dZ 1],[],[],[]⟩:=by cbv
theorem Vg:oK 3=eY:=by cbv
theorem BI:∀i,i<=3->Small (pX i)
 |0,_=>⟨by decide,by decide,by simp[pX],by decide,by decide⟩
 |1,_=>by rw[bJP];exact⟨by simp,by simp,by simp[dZ],by simp,by simp⟩
 |2,_=>by rw[bJO];exact⟨by simp,by simp,by simp[dZ],by simp,by simp⟩
 |3,_=>by rw[LM];exact⟨by simp[eY],by simp[eY],by simp[eY,dZ],by simp[eY],by simp[eY]⟩
 |n+4,h=>by omega
theorem rk:∀i,i<3->(dZ i).S.name.size<=2^60
 |0,_=>by decide
 |1,_=>by decide
 |2,_=>by decide
 |n+3,h=>by omega
theorem BH:∀i,i<=3->(oK i).az.length<=2^37/\∀t∈(oK i).az,t.S.name.size<=2^60
 |0,_=>by simp[oK]
 |1,_=>by rw[bJN];simp[rk 0]
 |2,_=>by rw[bJM];simp[rk 0,rk 1]
 |3,_=>by rw[Vg];simp[eY,rk 0,rk 1,rk 2]
 |n+4,h=>by omega
structure dQz where
 b1:Option Addr
 n1:Nat
 c1:Nat
 b2:Option Addr
 n2:Nat
 c2:Nat
 b3:Option Addr
 n3:Nat
 c3:Nat
 b4:Option Addr
 n4:Nat
 c4:Nat
theorem FZ(hk:∀h' d L p e M r f N s n O t u F y v H B w I C x J E,Le h h'->
 ik h' (.agg #[.slice d L p,.slice e M r,.slice f N s,.slice n O t]) eY->RP h' u F y v H B w I C x J E eY->
 k (.tuple #[.agg #[.slice d L p,.slice e M r,.slice f N s,.slice n O t],.agg #[.slice u F y,.slice v H B,.slice w I C,.slice x J E]]) h'):
 Ct 13 [] h k:=by
 refine mQx kQd Tryz.func13 λA hA=>?_;cbv;refine aX.go (G:=Int×dQz×dQz) (λg=>[(4,.v (.int .i64 g.1))]) (λg=>[(0,[.slice none 0 0,.slice none 0 0,.slice none 0 0,.slice none 0 0]),(1,[.slice none 0 0,.slice none 0 0,.slice none 0 0,.slice none 0 0]),(2,[.slice g.2.1.b1 g.2.1.n1 g.2.1.c1,.slice g.2.1.b2 g.2.1.n2 g.2.1.c2,.slice g.2.1.b3 g.2.1.n3 g.2.1.c3,.slice g.2.1.b4 g.2.1.n4 g.2.1.c4]),(3,[.slice g.2.2.b1 g.2.2.n1 g.2.2.c1,.slice g.2.2.b2 g.2.2.n2 g.2.2.c2,.slice g.2.2.b3 g.2.2.n3 g.2.2.c3,.slice g.2.2.b4 g.2.2.n4 g.2.2.c4])])
  (λm g h'=>∃i,aS g.1 i/\m=3-i/\i<=3/\Le h h'/\ik h' (.agg #[.slice g.2.1.b1 g.2.1.n1 g.2.1.c1,.slice g.2.1.b2 g.2.1.n2 g.2.1.c2,.slice g.2.1.b3 g.2.1.n3 g.2.1.c3,.slice g.2.1.b4 g.2.1.n4 g.2.1.c4]) (pX i)/\RP h' g.2.2.b1 g.2.2.n1 g.2.2.c1 g.2.2.b2 g.2.2.n2 g.2.2.c2 g.2.2.b3 g.2.2.n3 g.2.2.c3 g.2.2.b4 g.2.2.n4 g.2.2.c4 (oK i)) 3
  (0,⟨none,0,0,none,0,0,none,0,0,none,0,0⟩,⟨none,0,0,none,0,0,none,0,0,none,0,0⟩) ⟨?_,?_,?_⟩ ⟨0,⟨rfl⟩,by omega,by omega,Le.refl _,hZJ h,⟨Sl.nil,Sl.nil,Sl.nil,Sl.nil⟩⟩ ?_
 .cbv
 .cbv
 .cbv
 intro m g h' hI;cbv;obtain⟨i,a,hm,X,l,q,b⟩:=hI;obtain⟨z,⟨d,L,p,e,M,r,f,N,s,n,O,t⟩,⟨u,F,y,v,H,B,w,I,C,x,J,E⟩⟩:=g;have a:aS z i:=a;have q:ik h' (.agg #[.slice d L p,.slice e M r,.slice f N s,.slice n O t]) (pX i):=q;have b:RP h' u F y v H B w I C x J E (oK i):=b;refine bh (λc=>?_) (λc=>?_)
 .have aP:i<3:=by rw[bm A,mQR]at c;have c:z<3:=c;have:=a.eq;omega
  clear c;cbv;refine Vl a aP h' (λh2 sb sn sc nm o l2 wD ho qs=>?_);obtain⟨D,Y⟩:∃D,D=rh (pX i) (aF i):=⟨_,rfl⟩;have hD:rh (pX i) ⟨nm,bp,0,o⟩=D:=by rw[wD,ho,Y];rfl
  have MY:D.1=pX (i+1):=by rw[Y];rfl
  clear Y;obtain⟨R,Z⟩:∃R,R=iC (oK i) (aF i):=⟨_,rfl⟩;have K:R.1=oK (i+1):=by rw[Z];rfl
  obtain⟨T,hT⟩:∃T,T=pX (i+1):=⟨_,rfl⟩;obtain⟨U,hU⟩:∃U,U=oK (i+1):=⟨_,rfl⟩;rw[<-hT]at MY;rw[<-hU]at K;cbv;refine Zz (q.mono l2) (nm:=nm) (key:=0) (only:=o) qs (BI i X) hD (λh3 f1 p1 g1 f2 p2 g2 f3 p3 g3 f4 p4 g4 l3 V=>?_);cbv;refine Vl a aP h3 (λh4 aj ab ag j o4 l4 Q W P=>?_);have hR:iC (oK i) ⟨j,bp,0,o4⟩=R:=by rw[Q,W,Z];rfl
  have xW:=(l2.trans l3).trans l4;cbv;refine Yj (b.mono xW) (nm:=j) (key:=0) (only:=o4) P (BH i X).1 (BH i X).2 hR (λh5 r1 s1 t1 r2 s2 t2 r3 s3 t3 r4 s4 t4 l5 S=>?_);cbv;refine⟨3-(i+1),(_,⟨f1,p1,g1,f2,p2,g2,f3,p3,g3,f4,p4,g4⟩,⟨r1,s1,t1,r2,s2,t2,r3,s3,t3,r4,s4,t4⟩),by omega,by constructor<;>cbv,i+1,a.succ (A:=A),rfl,by omega,l.trans (xW.trans l5),by rw[<-hT,<-MY];exact V.mono (l4.trans l5),by rw[<-hU,<-K];exact S⟩
 have lN:i=3:=by rw[bm A,decide_eq_false_iff_not]at c;have c:¬z<3:=c;have:=a.eq;omega
 clear c;subst lN;rw[LM]at q;rw[Vg]at b;have af:=hk _ _ _ _ _ _ _ _ _ _ _ _ _ _ _ _ _ _ _ _ _ _ _ _ _ l q b;cbv;refine⟨⟨_,rfl,rfl⟩,?_⟩;cbv;exact af
def fQ:ByteArray:=⟨#[]⟩
end Go.S
