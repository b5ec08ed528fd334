import Derived.Test.YtficmdggjjepmaaGreatDA
set_option linter.all false
set_option maxRecDepth 100000
namespace Go.S
open Go.Sx Go.Proofs
variable {only:Bool}{nm s:ByteArray}{d:DB}{z:Int}{a:List gY}{i n:Nat}{b:Option Addr}{h h':ab}
def fR(s:ByteArray)(i:Nat):Int:=((s.data.getD i 0).toNat:Int)
def Ah(z:Int):Bool:= !((decide (z<97)||decide (z>122))&&(decide (z<48)||decide (z>57))&&(z !=95))
def xT(s:ByteArray):Bool:= !(decide ((s.size:Int)<1)||decide ((s.size:Int)>12)||decide (fR s 0<97)||decide (fR s 0>122))
def uZ(s:ByteArray):Bool:=(List.range s.size).all λi=>Ah (fR s i)
def oX(s:ByteArray):Bool:=gC.any λw=>decide (w=s)
theorem oW:oX s=true↔s∈gC:=by
 unfold oX;rw[hKh];constructor
 .rintro⟨w,a,b⟩;exact qH b ▸ a
 intro h;exact⟨s,h,by simp⟩
def fD(s:ByteArray):Bool:=xT s&&uZ s&& !oX s
structure cKR(h:ab)(sp:Nat):Prop where
 out:(h sp=some (.cells #[.int .u32 0,.int .i32 0,.int .u32 0,.map none] 395 (0,0)))\/
  ∃m,h sp=some (.cells #[.int .u32 1,.int .i32 0,.int .u32 0,.map (some m)] 395 (0,0))/\Mp h m .string (wz gC)/\m≠sp
theorem Yn(w:World):(zeroValue 4).run Tryz.prog w=.ok (.bool false) w:=by
 have h:((Tryz.prog.info? 4).bind (·.zero))=some (.bool false):=by kernel_rfl
 cases a:Tryz.prog.info? 4 with
 |none=>rw[a]at h;cases h
 |some i=>rw[a]at h;simp at h;simp[zeroValue,typeInfo,a,h]
theorem FP{k:Value->ab->Prop}{m:Nat}(c:Mp h m .string (wz gC))(b:∀t,t=oX s->k (.bool t) h):
 dF (λ_=>Tryz.prog) (λ_=>Instr.lookup 393 (.map (some m)) (.string s) false) h k:=by
 by_cases a:s∈gC
 .exact rX aQx u9 c (key:=.string s) (v:=.bool true) True.intro (hJK.2 ⟨s,a,rfl⟩) (b true (oW.2 a).symm)
 refine oa aQx u9 Yn c (key:=.string s) True.intro ?_ (b false ?_)
 .intro p d e;obtain⟨w,f,rfl⟩:=hJK.1 d;cases e;exact a f
 cases i:oX s with
 |false=>rfl
 |true=>exact absurd (oW.1 i) a
set_option maxHeartbeats 2000000 in
theorem Qa{p:Nat}(q:cKR h p):
 Ct 234 [.pointer (some ⟨p,0,none⟩),.string s] h (λv h'=>∃t,v=.bool t/\t=fD s/\Kp [p] h h'/\cKR h' p):=by
 refine cp cZS Tryz.func234 λA o=>?_;have I:A .iQ s=(s.size:Int):=by rw[o.iQ]
 have xd:aM (A .iQ s) s.size:=⟨I⟩;have Y:∀z i,aM z i->A .byte s z=fR s i:=λz i a=>by
  rw[o.byte];simp only[fR];rw[a.eq];rfl
 generalize e1:A .az .lss (A .iQ s) 1=t1;generalize k:A .az .gtr (A .iQ s) 12=t2;generalize d:A .az .lss (A .byte s 0) 97=t3;generalize c:A .az .gtr (A .byte s 0) 122=t4;have X:t2=false->s.size<=12:=λe=>by
  rw[e,o.az,I]at k;have:=ra k;omega
 have x:xT s= !(t1||t2||t3||t4):=by rw[<-e1,<-k,<-d,<-c,Y 0 0 ⟨rfl⟩,I,o.az];rfl
 have B:t1=false->(0:Int)<=0/\0<(s.size:Int):=λe=>by
  rw[e,o.az,I]at e1;have:=ra e1;omega
 have y:∀(t:Bool) (b:Bool),t=false->xT s=false->t=fD s:=λt b r F=>by rw[r,fD,F];rfl
 have Jd:∀(t:Bool),t=true->t=t:=λ_ _=>rfl;cbv;rw[e1];cases t1 with
 |true=>cbv;exact⟨false,rfl,y _ true rfl x,Kp.refl _ _,q⟩
 |false=>
  have H:=B rfl;cbv;rw[k];cases t2 with
  |true=>cbv;exact⟨false,rfl,y _ true rfl x,Kp.refl _ _,q⟩
  |false=>
   cbv;refine⟨H,?_⟩;cbv;rw[d];cases t3 with
   |true=>cbv;exact⟨false,rfl,y _ true rfl x,Kp.refl _ _,q⟩
   |false=>
    cbv;refine⟨H,?_⟩;cbv;rw[c];cases t4 with
    |true=>cbv;exact⟨false,rfl,y _ true rfl x,Kp.refl _ _,q⟩
    |false=>
     cbv;have ZB:xT s=true:=x;have X:=X rfl;clear x e1 k d c B y Jd;refine aK.go (G:=Int) (λz=>[(27,.v (.int .i64 z))]) (λ_=>[]) (λn z h'=>∃i:Nat,aM z i/\n=s.size-i/\i<=s.size/\h'=h/\∀j,j<i->Ah (fR s j)=true) s.size 0 (by constructor<;>cbv) ⟨0,⟨rfl⟩,rfl,by omega,rfl,λj J=>(by omega)⟩ ?_
     intro n z h' hI;cbv;obtain⟨i,a,ai,hi,rfl,M⟩:=hI;refine aL (λu=>?_) (λu=>?_)
     .rw[a.pL (A:=A) xd]at u;have L:=qH u;clear u;cbv;refine⟨a.ix L,?_⟩;cbv;rw[Y z i a];generalize U:fR s i=w;generalize e1:A .az .lss w 97=t1;generalize k:A .az .gtr w 122=t2;generalize d:A .az .lss w 48=t3;generalize c:A .az .gtr w 57=t4;generalize C:A .az .neq w 95=t5;have T:Ah w= !((t1||t2)&&(t3||t4)&&t5):=by rw[<-e1,<-k,<-d,<-c,<-C,o.az];rfl
      have f:Ah w=false->fD s=false:=λe=>by
       have:uZ s=false:=by unfold uZ;rw[hKW];exact⟨i,by simp[L],by rw[U,e];simp⟩
       rw[fD,this];simp
      have E:Ah w=true->∀j,j<i+1->Ah (fR s j)=true:=λe j J=>by
       rcases ss j i with h|h
       .exact M j h
       have:j=i:=by omega
       rw[this,U,e]
      cbv;cases t1 with
      |true=>
       cbv;rw[d];cases t3 with
       |true=>
        cbv;rw[C];cases t5 with
        |true=>cbv;exact⟨false,rfl,(f (by rw[T];rfl)).symm,Kp.refl _ _,q⟩
        |false=>cbv;exact⟨s.size-(i+1),_,by omega,by constructor<;>cbv,i+1,a.succ (A:=A),rfl,by omega,rfl,E (by rw[T];rfl)⟩
       |false=>
        cbv;rw[c];cases t4 with
        |true=>
         cbv;rw[C];cases t5 with
         |true=>cbv;exact⟨false,rfl,(f (by rw[T];rfl)).symm,Kp.refl _ _,q⟩
         |false=>cbv;exact⟨s.size-(i+1),_,by omega,by constructor<;>cbv,i+1,a.succ (A:=A),rfl,by omega,rfl,E (by rw[T];rfl)⟩
        |false=>cbv;exact⟨s.size-(i+1),_,by omega,by constructor<;>cbv,i+1,a.succ (A:=A),rfl,by omega,rfl,E (by rw[T];rfl)⟩
      |false=>
       cbv;rw[k];cases t2 with
       |true=>
        cbv;rw[d];cases t3 with
        |true=>
         cbv;rw[C];cases t5 with
         |true=>cbv;exact⟨false,rfl,(f (by rw[T];rfl)).symm,Kp.refl _ _,q⟩
         |false=>cbv;exact⟨s.size-(i+1),_,by omega,by constructor<;>cbv,i+1,a.succ (A:=A),rfl,by omega,rfl,E (by rw[T];rfl)⟩
        |false=>
         cbv;rw[c];cases t4 with
         |true=>
          cbv;rw[C];cases t5 with
          |true=>cbv;exact⟨false,rfl,(f (by rw[T];rfl)).symm,Kp.refl _ _,q⟩
          |false=>cbv;exact⟨s.size-(i+1),_,by omega,by constructor<;>cbv,i+1,a.succ (A:=A),rfl,by omega,rfl,E (by rw[T];rfl)⟩
         |false=>cbv;exact⟨s.size-(i+1),_,by omega,by constructor<;>cbv,i+1,a.succ (A:=A),rfl,by omega,rfl,E (by rw[T];rfl)⟩
       |false=>cbv;exact⟨s.size-(i+1),_,by omega,by constructor<;>cbv,i+1,a.succ (A:=A),rfl,by omega,rfl,E (by rw[T];rfl)⟩
     rw[a.pL (A:=A) xd]at u;have gW:=ra u;cbv;have Ru:uZ s=true:=by unfold uZ;rw[GD];intro j J;rw[hKM]at J;exact M j (by omega)
     rw[ao A];have fin:∀t,t=oX s->(A .not t)=fD s:=λt r=>by
      rw[fD,ZB,Ru,r,o.not];simp
     rcases q.out with g| ⟨m,g,mp,l⟩
     .refine(RY (a1:=⟨p,0,none⟩) (Q:=λF=>Kp [p] h' F/\∃m,h' m=none/\F p=some (.cells #[.int .u32 0,.int .i32 1,.int .u32 0,.map (some m)] 395 (0,0))/\Mp F m .string (wz gC)) (cP g rfl) (cP g rfl) (λH hu=>?_)).mono (λv R hR=>?_)
      .have e1:=hu.exp g;have N:=(congrFun e1 p).trans ae;refine(UX N).mono (λv P hR=>?_);obtain⟨rfl,K,m,l,D,S⟩:=hR;have k1:Kp [p] h' H:=by rw[e1];exact Kp.set (by simp)
       refine⟨rfl,cP D rfl,cP D rfl,k1.trans K,m,?_,D,S⟩;have bm:m≠p:=λe=>by rw[e,N]at l;cases l
       rw[e1,bU bm]at l;exact l
      obtain⟨rfl,P,h3,⟨K,m,l,D,S⟩,u3,u4⟩:=hR;have d:=u3.exp D;have g3:=(congrFun d p).trans ae;have c:=u4.exp g3;have O:=(congrFun c p).trans ae;rw[d,dN]at c;have W:Kp [p] P R:=by rw[c];exact Kp.set (by simp)
      have Z:m≠p:=λe=>by rw[e,g]at l;cases l
      have V:=S.kp W (by simpa using Z);cbv;rw[ao A];refine bc O ?_;cbv;refine FP V (λt r=>?_);cbv;exact⟨_,rfl,fin t r,K.trans W,⟨.inr ⟨m,O,V,Z⟩⟩⟩
     refine(Nr (a1:=⟨p,0,none⟩) (cP g rfl)).mono (λv R hR=>?_);obtain⟨rfl,rfl⟩:=hR;cbv;rw[ao A];refine bc g ?_;cbv;refine FP mp (λt r=>?_);cbv;exact⟨_,rfl,fin t r,Kp.refl _ _,q⟩
theorem WT{x:gY}{b:Nat}{n:ByteArray}(g:h b=some (.cells #[.string n] 9 (0,0))){a:Bool}:
 Ct 303 [.agg #[.string s,.int .i64 z,.bool a],.pointer (some ⟨b,0,none⟩)] h (λv h'=>Le h h'/\∃t,v=.bool t/\t=decide (s=n)):=by
 refine cp cXR Tryz.func303 λA c=>?_;cbv;refine bc g ?_;cbv;exact⟨Le.refl _,_,rfl,ek A _ _⟩
theorem aXQ{xs:List gY}{len cap:Nat}(q:Sl 58 bt h (.slice b len cap) xs){r:Nat}{a:ByteArray}(g:h r=some (.cells #[.string a] 9 (0,0))):
 Ct 302 [.slice b len cap,.func (.func 303) #[] #[.pointer (some ⟨r,0,none⟩)]] h (λv h'=>Le h h'/\∃z:Int,v=.int .i64 z/\oF xs (λx:gY=>decide (x.name=a)) z):=by
 have o:=q.len;obtain⟨Y,X⟩:=q.bound;generalize B:(λx:gY=>decide (x.name=a))=p;refine cp cXS Tryz.func302 λA D=>?_;cbv;refine aK.go (G:=Int) (λz=>[(8,.v (.int .i64 z))]) (λ_=>[]) (λn z h'=>∃i:Nat,aM z i/\n=len-i/\i<=len/\Le h h'/\∀j,j<i->∀y,xs[j]? =some y->p y=false) len 0 (by constructor<;>cbv) ⟨0,⟨rfl⟩,by omega,by omega,Le.refl _,λj e=>(by omega)⟩ ?_
 intro n z h' w;cbv;obtain⟨i,c,F,E,l,k⟩:=w;refine aL (λd=>?_) (λd=>?_)
 .have s:=c.lt d;clear d;cbv;obtain⟨x,hx⟩:=di xs i;refine⟨⟨q.aR,c.ix s⟩,?_⟩;cbv;refine(q.mono (l.t _)).load hx c.eq (λcs u=>?_);have u:cs=[.string x.name,.int .i64 x.kind,.bool x.null]:=u;subst u;cbv;refine(WT (x:=x) (l _ _ g)).mono (λv C hR=>?_);obtain⟨I,t,rfl,f⟩:=hR;have f:t=p x:=by rw[<-B];exact f
  cbv;cases t with
  |true=>cbv;exact⟨l.trans I,z,rfl,⟨.inr ⟨i,x,c,hx,f.symm,k⟩⟩⟩
  |false=>
   cbv;refine⟨len-(i+1),_,by omega,by constructor<;>cbv,i+1,c.succ (A:=A),rfl,by omega,l.trans I,?_⟩
   intro j e y m;rcases ss j i with h|h
   .exact k j h y m
   have:j=i:=by omega
   subst this;rw[hx]at m;cases m;exact f.symm
 have W:=c.ge d;cbv;refine⟨l,-1,rfl,⟨.inl ⟨rfl,λx hx=>?_⟩⟩⟩;obtain⟨j,e⟩:=yl hx;have:=(dB.1 e).1;exact k j (by omega) x e
theorem aJJ{W:List gY}{c:Nat}(q:Sl 58 bt h (.slice b n c) W){k:Int}:
 Ct 235 [.agg #[.string nm,.slice b n c,.int .i64 k,.bool only],.string s] h (λv h'=>Le h h'/\∃z t a,v=.tuple #[.int .i64 z,.bool t]/\oF W (λx=>decide (x.name=s)) a/\z=max a 0/\t=decide (a>=0)):=by
 refine cp cZR Tryz.func235 λA f=>?_;cbv;intro m e d e1;have l:Le h e:=by rw[e1];exact Le.set d
 have g:=(congrFun e1 m).trans ae;cbv;refine(aXQ (q.mono (l.t _)) g).mono (λv o hR=>?_);obtain⟨j,z,rfl,i⟩:=hR;cbv;exact⟨l.trans j,_,_,z,rfl,i,by rw[f.imax],cZ A _ _⟩
theorem Kp.bZL{e:Nat}{c:Array Value}{fr:Nat×Nat}{tys:List Nat}(x:Kp [n] h h')(g:h n=some (.cells c e fr))(f:e∉tys):cf tys h h':=λb d i E m a=>by
 by_cases Q:b=n
 .rw[Q,g]at a;cases a;exact absurd m f
 exact x b _ a (by simpa using Q)
def eT(aW:List gY)(i:Nat)(c:gY):Int:=
 if(!fD c.name||(aW.take i).any λx=>decide (x.name=c.name))=true then 12 else if(decide (c.kind<1)||decide (c.kind>3))=true then 3 else 0
def iF(aW:List gY):Int:=((aW.zipIdx.map λ(c,i)=>eT aW i c).find? (λz=>z !=0)).getD 0
def dA(s:rM):Int:=
 if(!fD s.name)=true then 12
 else if(decide ((s.aW.length:Int)<1)||decide ((s.aW.length:Int)>6))=true then 4
 else if iF s.aW≠0 then iF s.aW
 else if(decide (s.key<0)||decide (s.key>=(s.aW.length:Int)))=true then 1
 else if((s.aW[s.key.toNat]?).map (·.null)).getD false=true then 13 else 0
theorem Ba{c:gY}(h:a[i]? =some c)(b:∀j,j<i->∀y,a[j]? =some y->eT a j y=0)(m:eT a i c≠0):iF a=eT a i c:=by
 unfold iF;have:(a.zipIdx.map λ(c,i)=>eT a i c).find? (λz=>z !=0)=some (eT a i c):=by
  rw[iXd];have I:=(dB.1 h).1;refine⟨by simpa using m,i,by simpa using I,?_,λj d=>?_⟩
  .have:=(dB.1 h).2;simp[this]
  have p:j<a.length:=by omega
  have:=b j d a[j] (by simp[p]);simp[this]
 rw[this];rfl
theorem vO(b:∀j,j<a.length->∀y,a[j]? =some y->eT a j y=0):iF a=0:=by
 unfold iF;have:(a.zipIdx.map λ(c,i)=>eT a i c).find? (λz=>z !=0)=none:=by rw[List.find?_eq_none];intro x hx;obtain⟨⟨c,i⟩,h,rfl⟩:=hJK.1 hx;have:=iXc.1 h;have I:=(dB.1 this).1;simp[b i I c this]
 rw[this];rfl
theorem Qu{W:List gY}{c:gY}(d:W[i]? =some c)(r:oF W (λx=>decide (x.name=c.name)) z):
 decide (max z 0<(i:Int))=(W.take i).any λx=>decide (x.name=c.name):=by
 rcases r.out with⟨-,h⟩|⟨k,x,e,hx,p,b⟩
 .have:=h c (kF d);simp at this
 have l:=e.eq;by_cases I:k<i
 .rw[aH (by omega),eq_comm,hKh];exact⟨x,kF (i:=k) (by rw[hU,if_pos I];exact hx),p⟩
 have g:¬i<k:=λh=>by have:=b i h c d;simp at this
 rw[ag (by omega),eq_comm,iQz];intro y f;obtain⟨j,a⟩:=yl f;rw[hU]at a;split at a
 .rename_i C;have:=b j (by omega) y a;simpa using this
 cases a
set_option maxHeartbeats 2000000 in
theorem EN{key:Int}{c:Nat}(q:Sl 58 bt h (.slice b n c) a):
 Ct 140 [.agg #[.string nm,.slice b n c,.int .i64 key,.bool only]] h (λv h'=>Le h h'/\∃z,v=.int .i64 z/\z=dA ⟨nm,a,key,only⟩):=by
 obtain⟨A,H⟩:=Ar.ex;have B:=q.len;obtain⟨iY,fX⟩:=q.bound;have hn:A .nat n=(a.length:Int):=by rw[H.nat,B];rfl
 have xd:aM (A .nat n) n:=⟨by rw[H.nat];rfl⟩;generalize e1:A .az .lss (A .nat n) 1=t1;generalize f:A .az .gtr (A .nat n) 6=t2;have p:(decide ((a.length:Int)<1)||decide ((a.length:Int)>6))=(t1||t2):=by rw[<-e1,<-f,hn,aJ A,aO A]
 refine dH cKi A Tryz.func140 ?_;cbv;intro D T K Q;have w:Le h T:=by rw[Q];exact Le.set K
 have o:=(congrFun Q D).trans ae;have s1:cKR T D:=⟨.inl o⟩;have q1:=q.mono (w.t _);clear Q;cbv;refine(Qa s1).mono (λv h2 hR=>?_);obtain⟨t,rfl,J,L,s2⟩:=hR;cbv;rw[H.not];cases t with
 |false=>cbv;refine⟨w.aE (by simpa using K) L,12,rfl,?_⟩;unfold dA;rw[<-J];rfl
 |true=>
  cbv;rw[e1];have d:(t1||t2)=true->(4:Int)=dA ⟨nm,a,key,only⟩:=λU=>by
   unfold dA;rw[<-J,p,U];rfl
  cases t1 with
  |true=>cbv;exact⟨w.aE (by simpa using K) L,4,rfl,d rfl⟩
  |false=>
   cbv;rw[f];cases t2 with
   |true=>cbv;exact⟨w.aE (by simpa using K) L,4,rfl,d rfl⟩
   |false=>
    clear d e1 f;cbv;refine aK.go (G:=Int) (λz=>[(25,.v (.int .i64 z))]) (λ_=>[(1,[.string nm,.slice b n c,.int .i64 key,.bool only])])
     (λk z h'=>∃i:Nat,aM z i/\k=n-i/\i<=n/\Kp [D] T h'/\cKR h' D/\∀j,j<i->∀y,a[j]? =some y->eT a j y=0) n 0 ⟨?_,?_,?_⟩ ⟨0,⟨rfl⟩,by omega,by omega,L,s2,λj hj=>(by omega)⟩ ?_
    .cbv
    .cbv
    .cbv
    intro k z h' hI;cbv;obtain⟨i,r,hk,hi,kp,S,P⟩:=hI;refine aL (λI=>?_) (λI=>?_)
    .have aI:=r.lt I;clear I;cbv;obtain⟨x,hx⟩:=di a i;have O:=q1.mono (Kp.bZL kp o (by decide));refine⟨⟨q.aR,r.ix aI⟩,?_⟩;cbv;refine O.load hx r.eq (λcs u=>?_);have u:cs=[.string x.name,.int .i64 x.kind,.bool x.null]:=u;subst u;generalize X:x.name=xn at *;generalize Za:x.kind=xk at *;cbv;refine(aJJ O).mono (λv h3 hR=>?_);obtain⟨N,z3,t3,z',rfl,hr,MF,ai⟩:=hR;have s3:cKR h3 D:=by
      rcases S.out with g| ⟨m,g,mp,U⟩
      .exact⟨.inl (N _ _ g)⟩
      exact⟨.inr ⟨m,N _ _ g,mp.kp (N.kp []) (by simp),U⟩⟩
     have jZ:A .az .lss z3 z=(a.take i).any λy=>decide (y.name=xn):=by rw[aJ A,MF,r.eq,<-X];exact Qu hx (by rw[X];exact hr)
     cbv;refine(Qa s3).mono (λv h4 hR=>?_);obtain⟨t,rfl,R,k4,s4⟩:=hR;have M:=(kp.trans (N.kp _)).trans k4;have V:Le h h4:=w.aE (by simpa using K) M;have l:∀e:Int,eT a i x=e->e≠0->e=dA ⟨nm,a,key,only⟩:=λe he Y=>by
      have h5:=Ba hx P (by rw[he];exact Y);unfold dA;rw[<-J,p];simp only[h5,he];rw[if_neg (by simp),if_neg (by simp),if_pos Y]
     have iE:eT a i x=0->∀j,j<i+1->∀y,a[j]? =some y->eT a j y=0:=λe j hj y C=>by
      rcases ss j i with jC|jC
      .exact P j jC y C
      have:j=i:=by omega
      subst this;rw[hx]at C;cases C;exact e
     generalize e1:A .az .lss z3 z=E at *;generalize f:A .az .lss xk 1=F;generalize e3:A .az .gtr xk 3=u3;have W:eT a i x=if(!t||E)=true then 12 else if(F||u3)=true then 3 else 0:=by unfold eT;rw[X,Za,<-R,<-jZ,<-f,<-e3,aJ A,aO A]
     cbv;rw[H.not];cases t with
     |false=>cbv;exact⟨V,12,rfl,l 12 W (by decide)⟩
     |true=>
      cbv;try rw[e1]
      cases E with
      |true=>cbv;exact⟨V,12,rfl,l 12 W (by decide)⟩
      |false=>
       cbv;rw[f];cases F with
       |true=>cbv;exact⟨V,3,rfl,l 3 W (by decide)⟩
       |false=>
        cbv;rw[e3];cases u3 with
        |true=>cbv;exact⟨V,3,rfl,l 3 W (by decide)⟩
        |false=>
         cbv;refine⟨n-(i+1),_,by omega,by constructor<;>cbv,i+1,r.succ (A:=A),rfl,by omega,M,s4,iE W⟩
    have gW:=r.ge I;have h0:iF a=0:=vO λj hj y C=>P j (by omega) y C;have V:Le h h':=w.aE (by simpa using K) kp;have O:=q1.mono (Kp.bZL kp o (by decide));generalize e1:A .az .lss key 0=E;generalize f:A .az .geq key (A .nat n)=F;have s:dA ⟨nm,a,key,only⟩=if(E||F)=true then 1 else if((a[key.toNat]?).map (·.null)).getD false=true then 13 else 0:=by unfold dA;rw[<-J,p];simp only[h0];rw[if_neg (by simp),if_neg (by simp),if_neg (by simp),<-e1,<-f,aJ A,cZ A,hn]
    cbv;rw[e1];cases E with
    |true=>cbv;exact⟨V,1,rfl,s.symm⟩
    |false=>
     cbv;rw[f];cases F with
     |true=>cbv;exact⟨V,1,rfl,s.symm⟩
     |false=>
      obtain⟨Z,jY⟩:=IW A e1 f;obtain⟨x,hx⟩:=di a key.toNat;rw[hx]at s;cbv;refine⟨⟨q.aR,Z.ix jY⟩,?_⟩;cbv;refine O.ep hx Z.eq (by decide) (λcs u=>?_);have u:cs=[.string x.name,.int .i64 x.kind,.bool x.null]:=u;subst u;have s:dA ⟨nm,a,key,only⟩=if x.null=true then 13 else 0:=s
      generalize x.null=nl at *;cases nl with
      |true=>cbv;exact⟨V,13,rfl,s.symm⟩
      |false=>cbv;exact⟨V,0,rfl,s.symm⟩
theorem rS{c j wb b w:Nat}{T:List bM}{W:List (eG×Bool)}{H a:List bJ}{e:Int}(q:iL h c j wb b w T W H a e)(n:ByteArray):
 Ct 141 [.pointer (some ⟨c,0,none⟩),.string n] h (λv h'=>Le h h'/\∃z t,v=.tuple #[.int .i64 z,.bool t]/\Kc (T.map (λx=>cU x.S.name n)) z t):=by
 obtain⟨F,G,k,I,p,m,J,r,o,g,s,d,f,u,y,B,C⟩:=q.out;refine cp cKh Tryz.func141 λA E=>?_;cbv;rw[ao A];rw[ao A];refine bc g ?_;cbv;refine(fQl (f.sl d) n).mono (λv D hR=>?_);obtain⟨l,z,t,rfl,i⟩:=hR;cbv;exact⟨l,z,t,rfl,i⟩
theorem GA{xs:List bM}{x:bM}{vb:Option Addr}{j:Nat}(q:Sl 100 bu h (.slice b n n) xs)(s:Sl 100 bu h (.slice vb 1 j) [x])(a:aM z i)(k:i<=n)(S:n<=2^38):
 Ct 142 [.slice b n n,.int .i64 z,.slice vb 1 j] h (λv h'=>Le h h'/\∃e c m,v=.slice (some ⟨e,0,none⟩) m c/\h e=none/\m=n+1/\cM 100 bu h' e c (xs.take i++[x]++xs.drop i)):=by
 obtain⟨A,d⟩:=Ar.ex;have l:=q.len;have O:aM (A .nat n) n:=⟨by rw[d.nat];rfl⟩;have E:aM (A .nat 1) 1:=⟨by rw[d.nat];rfl⟩;have e1:A .az .eql (A .nat 1) 0=false:=by rw[aq A,d.nat];rfl
 have u:A .az .eql z (A .nat n)=decide (i=n):=by rw[aq A,d.nat];have:=a.eq;rw[decide_eq_decide];simp only[kH];omega
 have y:A .az .gtr (A .aC .add .i64 (A .nat n) (A .nat 1)) (A .nat n)=true:=by rw[aO A,yr,d.aC,d.nat];simp only[aC,kH];rw[IntWalk.i64_in _ (by omega)];omega
 have w:=(O.add (A:=A) E (by omega)).sub (A:=A) a (by omega) (by omega);have D:=rG w (bytes:=80) (by omega) (by decide);have W:0<=z/\z<=(n:Int):=by have:=a.eq;omega
 refine dH cKg A Tryz.func142 ?_;cbv;refine⟨W,?_⟩;cbv;rw[e1];cbv;rw[u];by_cases Z:i=n
 .rw[aH Z];cbv;refine lC q s (by omega) rfl (by decide) (by omega) (λe c F V f H o=>?_);cbv;refine⟨f,e,c,_,rfl,V,rfl,?_⟩;rw[Z,l,hJz,iQy,wS];exact o
 rw[ag Z];cbv;rw[y];cbv;refine⟨W,?_⟩;cbv;refine⟨D,?_⟩;cbv;rw[cQ (A:=A) a];rw[cQ (A:=A) w];refine ly (q.Pe (A:=A) k) (by omega) rfl (by decide) (by omega) rfl rfl (λe c F V f H o=>?_);obtain⟨m,I⟩:∃m,m=n+1:=⟨_,rfl⟩;rw[show i+(n+1-i)=m by omega];have K:aM (A .nat m) m:=⟨by rw[d.nat];rfl⟩;have J:aM (A .nat c) c:=⟨by rw[d.nat];rfl⟩;have X:0<=z/\z<=(m:Int):=by have:=a.eq;omega
 have g:=a.add (A:=A) E (by omega);have T:0<=A .aC .add .i64 z (A .nat 1)/\A .aC .add .i64 z (A .nat 1)<=(m:Int):=by have:=g.eq;omega
 have P:(xs.take i).length=i:=by rw[dW];omega
 cbv;refine⟨X,?_⟩;cbv;rw[sF (A:=A) a (by omega),bZ (A:=A) a];have t:=s.mono (f.t _);refine vM o (by decide) (i:=i) (by omega) t (by omega) (by omega) (by omega) rfl (λG L U o2=>?_);rw[hKg,iXb,Yd (by omega),wS]at o2;have p:Le h G:=f.aE (by simpa using V) L;have N:=q.mono (p.t _);generalize ((min 1 (m-i):Nat):Int)=w1;cbv;refine⟨T,?_⟩;cbv;refine⟨W,?_⟩;cbv;rw[sF (A:=A) g (by omega),bZ (A:=A) g,bZ (A:=A) a,bZ (A:=A) a];refine vM o2 (by decide) (i:=i+1) (by simp;omega) (N.gT (A:=A) a k rfl rfl) (by omega) (by omega) (by omega) rfl (λR M Y r=>?_);generalize ((min (n-i) (m-(i+1)):Nat):Int)=w2;cbv;refine⟨p.aE (by simpa using V) M,e,c,m,rfl,V,I,?_⟩;have Q:(List.take i xs++[x]).length=i+1:=by simp;omega
 have B:List.take (i+1) (List.take i xs++[x])=List.take i xs++[x]:=hO (by omega);have C:List.drop (i+1+(n-i)) (List.take i xs++[x])=[]:=Yd (by omega);rw[B,C,wS]at r;exact r
theorem gv.form{v:Value}(q:gv h v d):∃b n f a k g c l i e m j,v=.agg #[.slice b n f,.slice a k g,.slice c l i,.slice e m j]:=by obtain⟨b,n,f,a,k,g,c,l,i,e,m,j,w,rfl,-⟩:=q.out;exact⟨_,_,_,_,_,_,_,_,_,_,_,_,rfl⟩
theorem gv.mono{v:Value}(q:gv h v d)(l:Le h h'):gv h' v d:=by obtain⟨g,r,m,i,s,n,j,t,o,k,u,p,w,rfl,a,b,c,e,f⟩:=q.out;exact⟨_,_,_,_,_,_,_,_,_,_,_,_,w,rfl,a.mono (l.t _),b.mono (l.t _),c.mono (l.t _),e.mono (l.t _),f⟩
def ba(d:DB)(t:List bM):DB:={ d with al:=t }
def eo(d:DB)(s:rM)(is:Bool):Int:=
 if dA s≠0 then dA s
 else if is=true then 7
 else if decide (d.al.length>=8)=true then 4
 else if decide (d.aj.length>0)=true then 18 else 0
def eC(d:DB)(s:rM)(i:Nat)(is:Bool):DB×Int:=
 if eo d s is=0 then(ba d (d.al.take i++[⟨s,[]⟩]++d.al.drop i),0)else(d,eo d s is)
end Go.S
