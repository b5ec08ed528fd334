import Derived.Test.YthnbpiejemlbeaaGreatDA
set_option linter.all false
set_option maxRecDepth 100000
namespace Go.S
open Go.Sx Go.Proofs
variable {only:Bool}{nm s:ByteArray}{d:DB}{e key z:Int}{xs:List (eY×Bool)}{H:List bU}{B:List jF}{c cap i j n:Nat}{b y:Option Addr}{h h':ad}
def iX(s:ByteArray)(i:Nat):Int:=((s.data.getD i 0).toNat:Int)
def EY(z:Int):Bool:= !((decide (z<97)||decide (z>122))&&(decide (z<48)||decide (z>57))&&(z !=95))
def CO(s:ByteArray):Bool:= !(decide ((s.size:Int)<1)||decide ((s.size:Int)>12)||decide (iX s 0<97)||decide (iX s 0>122))
def Au(s:ByteArray):Bool:=(List.range s.size).all λi=>EY (iX s i)
def tW(s:ByteArray):Bool:=jm.any λw=>decide (w=s)
theorem tV:tW s=true↔s∈jm:=by
 unfold tW;rw[jKL];constructor
 .rintro⟨w,a,b⟩;exact lA b ▸ a
 intro h;exact⟨s,h,by simp⟩
def gS(s:ByteArray):Bool:=CO s&&Au s&& !tW s
structure eJG(h:ad)(sp:Nat):Prop where
 out:(h sp=some (.cells #[.int .u32 0,.int .i32 0,.int .u32 0,.map none] 455 (0,0)))\/
  ∃m,h sp=some (.cells #[.int .u32 1,.int .i32 0,.int .u32 0,.map (some m)] 455 (0,0))/\Mp h m .string (BD jm)/\m≠sp
theorem bQz(w:World):(zeroValue 4).run Tryz.prog w=.ok (.bool false) w:=by
 have h:((Tryz.prog.info? 4).bind (·.zero))=some (.bool false):=by kernel_rfl
 cases a:Tryz.prog.info? 4 with
 |none=>rw[a]at h;cases h
 |some i=>rw[a]at h;simp at h;simp[zeroValue,typeInfo,a,h]
theorem KL{k:Value->ad->Prop}{m:Nat}(c:Mp h m .string (BD jm))(b:∀t,t=tW s->k (.bool t) h):
 fw (λ_=>Tryz.prog) (λ_=>Instr.lookup 453 (.map (some m)) (.string s) false) h k:=by
 by_cases a:s∈jm
 .exact Ak bZB u9 c (key:=.string s) (v:=.bool true) True.intro (xz.2 ⟨s,a,rfl⟩) (b true (tV.2 a).symm)
 refine vD bZB u9 bQz c (key:=.string s) True.intro ?_ (b false ?_)
 .intro p d e;obtain⟨w,f,rfl⟩:=xz.1 d;cases e;exact a f
 cases i:tW s with
 |false=>rfl
 |true=>exact absurd (tV.1 i) a
set_option maxHeartbeats 2000000 in
theorem Xn{p:Nat}(q:eJG h p):
 Ct 304 [.zP p,.string s] h (λv h'=>∃t,v=.bool t/\t=gS s/\Kp [p] h h'/\eJG h' p):=by
 refine cg eQr Tryz.func304 λA r=>?_;have I:A .lC s=(s.size:Int):=by rw[r.lC]
 have O:aZ (A .lC s) s.size:=⟨I⟩;have oW:∀z i,aZ z i->A .byte s z=iX s i:=λz i a=>by
  rw[r.byte];simp only[iX];rw[a.eq];rfl
 generalize e1:A .aN .lss (A .lC s) 1=t1;generalize k:A .aN .gtr (A .lC s) 12=t2;generalize d:A .aN .lss (A .byte s 0) 97=t3;generalize c:A .aN .gtr (A .byte s 0) 122=t4;have tA:t2=false->s.size<=12:=λe=>by
  rw[e,r.aN,I]at k;have:=kz k;omega
 have y:CO s= !(t1||t2||t3||t4):=by rw[<-e1,<-k,<-d,<-c,oW 0 0 ⟨rfl⟩,I,r.aN];rfl
 have J:t1=false->(0:Int)<=0/\0<(s.size:Int):=λe=>by
  rw[e,r.aN,I]at e1;have:=kz e1;omega
 have E:∀(t:Bool) (b:Bool),t=false->CO s=false->t=gS s:=λt b u F=>by rw[u,gS,F];rfl
 have OA:∀(t:Bool),t=true->t=t:=λ_ _=>rfl;cbv;rw[e1];cases t1 with
 |true=>cbv;exact⟨false,rfl,E _ true rfl y,Kp.refl _ _,q⟩
 |false=>
  have H:=J rfl;cbv;rw[k];cases t2 with
  |true=>cbv;exact⟨false,rfl,E _ true rfl y,Kp.refl _ _,q⟩
  |false=>
   cbv;refine⟨H,?_⟩;cbv;rw[d];cases t3 with
   |true=>cbv;exact⟨false,rfl,E _ true rfl y,Kp.refl _ _,q⟩
   |false=>
    cbv;refine⟨H,?_⟩;cbv;rw[c];cases t4 with
    |true=>cbv;exact⟨false,rfl,E _ true rfl y,Kp.refl _ _,q⟩
    |false=>
     cbv;have K:CO s=true:=y;have tA:=tA rfl;clear y e1 k d c J E OA;refine aX.go (G:=Int) (λz=>[(27,.v (.int .i64 z))]) (λ_=>[]) (λn z h'=>∃i:Nat,aZ z i/\n=s.size-i/\i<=s.size/\h'=h/\∀j,j<i->EY (iX s j)=true) s.size 0 (by constructor<;>cbv) ⟨0,⟨rfl⟩,rfl,by omega,rfl,λj L=>(by omega)⟩ ?_
     intro n z h' hI;cbv;obtain⟨i,a,ab,hi,rfl,R⟩:=hI;refine ba (λx=>?_) (λx=>?_)
     .rw[a.yY (A:=A) O]at x;have U:=lA x;clear x;cbv;refine⟨a.ix U,?_⟩;cbv;rw[oW z i a];generalize Y:iX s i=w;generalize e1:A .aN .lss w 97=t1;generalize k:A .aN .gtr w 122=t2;generalize d:A .aN .lss w 48=t3;generalize c:A .aN .gtr w 57=t4;generalize B:A .aN .neq w 95=t5;have l:EY w= !((t1||t2)&&(t3||t4)&&t5):=by rw[<-e1,<-k,<-d,<-c,<-B,r.aN];rfl
      have f:EY w=false->gS s=false:=λe=>by
       have:Au s=false:=by unfold Au;rw[kXh];exact⟨i,by simp[U],by rw[Y,e];simp⟩
       rw[gS,this];simp
      have P:EY w=true->∀j,j<i+1->EY (iX s j)=true:=λe j L=>by
       rcases wM j i with h|h
       .exact R j h
       have:j=i:=by omega
       rw[this,Y,e]
      cbv;cases t1 with
      |true=>
       cbv;rw[d];cases t3 with
       |true=>
        cbv;rw[B];cases t5 with
        |true=>cbv;exact⟨false,rfl,(f (by rw[l];rfl)).symm,Kp.refl _ _,q⟩
        |false=>cbv;exact⟨s.size-(i+1),_,by omega,by constructor<;>cbv,i+1,a.succ (A:=A),rfl,by omega,rfl,P (by rw[l];rfl)⟩
       |false=>
        cbv;rw[c];cases t4 with
        |true=>
         cbv;rw[B];cases t5 with
         |true=>cbv;exact⟨false,rfl,(f (by rw[l];rfl)).symm,Kp.refl _ _,q⟩
         |false=>cbv;exact⟨s.size-(i+1),_,by omega,by constructor<;>cbv,i+1,a.succ (A:=A),rfl,by omega,rfl,P (by rw[l];rfl)⟩
        |false=>cbv;exact⟨s.size-(i+1),_,by omega,by constructor<;>cbv,i+1,a.succ (A:=A),rfl,by omega,rfl,P (by rw[l];rfl)⟩
      |false=>
       cbv;rw[k];cases t2 with
       |true=>
        cbv;rw[d];cases t3 with
        |true=>
         cbv;rw[B];cases t5 with
         |true=>cbv;exact⟨false,rfl,(f (by rw[l];rfl)).symm,Kp.refl _ _,q⟩
         |false=>cbv;exact⟨s.size-(i+1),_,by omega,by constructor<;>cbv,i+1,a.succ (A:=A),rfl,by omega,rfl,P (by rw[l];rfl)⟩
        |false=>
         cbv;rw[c];cases t4 with
         |true=>
          cbv;rw[B];cases t5 with
          |true=>cbv;exact⟨false,rfl,(f (by rw[l];rfl)).symm,Kp.refl _ _,q⟩
          |false=>cbv;exact⟨s.size-(i+1),_,by omega,by constructor<;>cbv,i+1,a.succ (A:=A),rfl,by omega,rfl,P (by rw[l];rfl)⟩
         |false=>cbv;exact⟨s.size-(i+1),_,by omega,by constructor<;>cbv,i+1,a.succ (A:=A),rfl,by omega,rfl,P (by rw[l];rfl)⟩
       |false=>cbv;exact⟨s.size-(i+1),_,by omega,by constructor<;>cbv,i+1,a.succ (A:=A),rfl,by omega,rfl,P (by rw[l];rfl)⟩
     rw[a.yY (A:=A) O]at x;have lJ:=kz x;cbv;have YI:Au s=true:=by unfold Au;rw[jKy];intro j L;rw[kXb]at L;exact R j (by omega)
     rw[av A];have fin:∀t,t=tW s->(A .not t)=gS s:=λt u=>by
      rw[gS,K,YI,u,r.not];simp
     rcases q.out with g| ⟨m,g,mp,o⟩
     .refine(Zg (a1:=⟨p,0,none⟩) (Q:=λF=>Kp [p] h' F/\∃m,h' m=none/\F p=some (.cells #[.int .u32 0,.int .i32 1,.int .u32 0,.map (some m)] 455 (0,0))/\Mp F m .string (BD jm)) (cm g rfl) (cm g rfl) (λH hu=>?_)).mono (λv W hR=>?_)
      .have e1:=hu.exp g;have S:=(congrFun e1 p).trans ae;refine(aXY S).mono (λv V hR=>?_);obtain⟨rfl,M,m,o,D,N⟩:=hR;have k1:Kp [p] h' H:=by rw[e1];exact Kp.set (by simp)
       refine⟨rfl,cm D rfl,cm D rfl,k1.trans M,m,?_,D,N⟩;have bS:m≠p:=λe=>by rw[e,S]at o;cases o
       rw[e1,ck bS]at o;exact o
      obtain⟨rfl,V,h3,⟨M,m,o,D,N⟩,u3,u4⟩:=hR;have d:=u3.exp D;have g3:=(congrFun d p).trans ae;have c:=u4.exp g3;have T:=(congrFun c p).trans ae;rw[d,ek]at c;have Z:Kp [p] V W:=by rw[c];exact Kp.set (by simp)
      have X:m≠p:=λe=>by rw[e,g]at o;cases o
      have C:=N.kp Z (by simpa using X);cbv;rw[av A];refine cr T ?_;cbv;refine KL C (λt u=>?_);cbv;exact⟨_,rfl,fin t u,M.trans Z,⟨.inr ⟨m,T,C,X⟩⟩⟩
     refine(TZ (a1:=⟨p,0,none⟩) (cm g rfl)).mono (λv W hR=>?_);obtain⟨rfl,rfl⟩:=hR;cbv;rw[av A];refine cr g ?_;cbv;refine KL mp (λt u=>?_);cbv;exact⟨_,rfl,fin t u,Kp.refl _ _,q⟩
theorem aJP{x:jF}{b:Nat}{n:ByteArray}(g:h b=some (.cells #[.string n] 9 (0,0))){a:Bool}{s1:ByteArray}:
 Ct 356 [.agg #[.string s1,.int .i64 z,.bool a],.zP b] h (λv h'=>Le h h'/\∃t,v=.bool t/\t=decide (s1=n)):=by
 refine cg dKA Tryz.func356 λA c=>?_;cbv;refine cr g ?_;cbv;exact⟨Le.refl _,_,rfl,eK A _ _⟩
theorem bKk{xs:List jF}{len:Nat}(q:Sl 202 bH h (.slice b len cap) xs){o:Nat}{a:ByteArray}(g:h o=some (.cells #[.string a] 9 (0,0))):
 Ct 355 [.slice b len cap,.func (.func 356) #[] #[.zP o]] h (λv h'=>Le h h'/\∃z:Int,v=.int .i64 z/\ur xs (λx:jF=>decide (x.name=a)) z):=by
 have m:=q.len;obtain⟨W,Z⟩:=q.bound;generalize s:(λx:jF=>decide (x.name=a))=p;refine cg dKB Tryz.func355 λA w=>?_;cbv;refine aX.go (G:=Int) (λz=>[(8,.v (.int .i64 z))]) (λ_=>[]) (λn z h'=>∃i:Nat,aZ z i/\n=len-i/\i<=len/\Le h h'/\∀j,j<i->∀y,xs[j]? =some y->p y=false) len 0 (by constructor<;>cbv) ⟨0,⟨rfl⟩,by omega,by omega,Le.refl _,λj e=>(by omega)⟩ ?_
 intro n z h' I;cbv;obtain⟨i,c,C,B,l,M⟩:=I;refine ba (λd=>?_) (λd=>?_)
 .have U:=c.lt d;clear d;cbv;obtain⟨x,hx⟩:=cB xs i;refine⟨⟨q.bp,c.ix U⟩,?_⟩;cbv;refine(q.mono (l.t _)).load hx c.eq (λcs r=>?_);have r:cs=[.string x.name,.int .i64 x.kind,.bool x.null]:=r;subst r;cbv;refine(aJP (x:=x) (l _ _ g)).mono (λv u hR=>?_);obtain⟨F,t,rfl,f⟩:=hR;have f:t=p x:=by rw[<-s];exact f
  cbv;cases t with
  |true=>cbv;exact⟨l.trans F,z,rfl,⟨.inr ⟨i,x,c,hx,f.symm,M⟩⟩⟩
  |false=>
   cbv;refine⟨len-(i+1),_,by omega,by constructor<;>cbv,i+1,c.succ (A:=A),rfl,by omega,l.trans F,?_⟩
   intro j e y k;rcases wM j i with h|h
   .exact M j h y k
   have:j=i:=by omega
   subst this;rw[hx]at k;cases k;exact f.symm
 have J:=c.ge d;cbv;refine⟨l,-1,rfl,⟨.inl ⟨rfl,λx hx=>?_⟩⟩⟩;obtain⟨j,e⟩:=rK hx;have:=(ff.1 e).1;exact M j (by omega) x e
theorem cXA(q:Sl 202 bH h (.slice b n c) B){k:Int}:
 Ct 305 [.agg #[.string nm,.slice b n c,.int .i64 k,.bool only],.string s] h (λv h'=>Le h h'/\∃z t a,v=.tuple #[.int .i64 z,.bool t]/\ur B (λx=>decide (x.name=s)) a/\z=max a 0/\t=decide (a>=0)):=by
 refine cg eQq Tryz.func305 λA f=>?_;cbv;intro m d e e1;have l:Le h d:=by rw[e1];exact Le.set e
 have g:=(congrFun e1 m).trans ae;cbv;refine(bKk (q.mono (l.t _)) g).mono (λv o hR=>?_);obtain⟨j,z,rfl,i⟩:=hR;cbv;exact⟨l.trans j,_,_,z,rfl,i,by rw[f.imax],cH A _ _⟩
theorem Kp.dQZ{e:Nat}{c:Array Value}{fr:Nat×Nat}{tys:List Nat}(x:Kp [n] h h')(g:h n=some (.cells c e fr))(i:e∉tys):cO tys h h':=λb d j K m a=>by
 by_cases f:b=n
 .rw[f,g]at a;cases a;exact absurd m i
 exact x b _ a (by simpa using f)
def gU(bB:List jF)(i:Nat)(c:jF):Int:=
 if(!gS c.name||(bB.take i).any λx=>decide (x.name=c.name))=true then 12 else if(decide (c.kind<1)||decide (c.kind>3))=true then 3 else 0
def kX(bB:List jF):Int:=((bB.zipIdx.map λ(c,i)=>gU bB i c).find? (λz=>z !=0)).getD 0
def eE(s:tE):Int:=
 if(!gS s.name)=true then 12
 else if(decide ((s.bB.length:Int)<1)||decide ((s.bB.length:Int)>6))=true then 4
 else if kX s.bB≠0 then kX s.bB
 else if(decide (s.key<0)||decide (s.key>=(s.bB.length:Int)))=true then 1
 else if((s.bB[s.key.toNat]?).map (·.null)).getD false=true then 13 else 0
theorem Gd{b:List jF}{c:jF}(h:b[i]? =some c)(M:∀j,j<i->∀y,b[j]? =some y->gU b j y=0)(S:gU b i c≠0):kX b=gU b i c:=by
 unfold kX;have:(b.zipIdx.map λ(c,i)=>gU b i c).find? (λz=>z !=0)=some (gU b i c):=by
  rw[kZb];have a:=(ff.1 h).1;refine⟨by simpa using S,i,by simpa using a,?_,λj d=>?_⟩
  .have:=(ff.1 h).2;simp[this]
  have q:j<b.length:=by omega
  have:=M j d b[j] (by simp[q]);simp[this]
 rw[this];rfl
theorem Bb{b:List jF}(M:∀j,j<b.length->∀y,b[j]? =some y->gU b j y=0):kX b=0:=by
 unfold kX;have:(b.zipIdx.map λ(c,i)=>gU b i c).find? (λz=>z !=0)=none:=by rw[List.find?_eq_none];intro x hx;obtain⟨⟨c,i⟩,h,rfl⟩:=xz.1 hx;have:=kZa.1 h;have a:=(ff.1 this).1;simp[M i a c this]
 rw[this];rfl
theorem XF{b:List jF}{c:jF}(d:b[i]? =some c)(r:ur b (λx=>decide (x.name=c.name)) z):
 decide (max z 0<(i:Int))=(b.take i).any λx=>decide (x.name=c.name):=by
 rcases r.out with⟨-,h⟩|⟨k,x,e,hx,p,M⟩
 .have:=h c (cK d);simp at this
 have g:=e.eq;by_cases U:k<i
 .rw[ak (by omega),eq_comm,jKL];exact⟨x,cK (i:=k) (by rw[qH,if_pos U];exact hx),p⟩
 have K:¬i<k:=λh=>by have:=M i h c d;simp at this
 rw[bn (by omega),eq_comm,kQY];intro y f;obtain⟨j,a⟩:=rK f;rw[qH]at a;split at a
 .rename_i m;have:=M j (by omega) y a;simpa using this
 cases a
set_option maxHeartbeats 2000000 in
theorem DY(q:Sl 202 bH h (.slice b n c) B):
 Ct 210 [.agg #[.string nm,.slice b n c,.int .i64 key,.bool only]] h (λv h'=>Le h h'/\∃z,v=.int .i64 z/\z=eE ⟨nm,B,key,only⟩):=by
 obtain⟨A,I⟩:=Ar.ex;have C:=q.len;obtain⟨kW,gZ⟩:=q.bound;have hn:A .nat n=(B.length:Int):=by rw[I.nat,C];rfl
 have Ci:aZ (A .nat n) n:=⟨by rw[I.nat];rfl⟩;generalize e1:A .aN .lss (A .nat n) 1=t1;generalize f:A .aN .gtr (A .nat n) 6=t2;have o:(decide ((B.length:Int)<1)||decide ((B.length:Int)>6))=(t1||t2):=by rw[<-e1,<-f,hn,aR A,bC A]
 refine fz eXY A Tryz.func210 ?_;cbv;intro E U L S;have u:Le h U:=by rw[S];exact Le.set L
 have K:=(congrFun S E).trans ae;have s1:eJG U E:=⟨.inl K⟩;have q1:=q.mono (u.t _);clear S;cbv;refine(Xn s1).mono (λv h2 hR=>?_);obtain⟨t,rfl,M,N,s2⟩:=hR;cbv;rw[I.not];cases t with
 |false=>cbv;refine⟨u.aV (by simpa using L) N,12,rfl,?_⟩;unfold eE;rw[<-M];rfl
 |true=>
  cbv;rw[e1];have d:(t1||t2)=true->(4:Int)=eE ⟨nm,B,key,only⟩:=λV=>by
   unfold eE;rw[<-M,o,V];rfl
  cases t1 with
  |true=>cbv;exact⟨u.aV (by simpa using L) N,4,rfl,d rfl⟩
  |false=>
   cbv;rw[f];cases t2 with
   |true=>cbv;exact⟨u.aV (by simpa using L) N,4,rfl,d rfl⟩
   |false=>
    clear d e1 f;cbv;refine aX.go (G:=Int) (λz=>[(25,.v (.int .i64 z))]) (λ_=>[(1,[.string nm,.slice b n c,.int .i64 key,.bool only])])
     (λk z h'=>∃i:Nat,aZ z i/\k=n-i/\i<=n/\Kp [E] U h'/\eJG h' E/\∀j,j<i->∀y,B[j]? =some y->gU B j y=0) n 0 ⟨?_,?_,?_⟩ ⟨0,⟨rfl⟩,by omega,by omega,N,s2,λj hj=>(by omega)⟩ ?_
    .cbv
    .cbv
    .cbv
    intro k z h' hI;cbv;obtain⟨i,p,hk,hi,kp,Y,R⟩:=hI;refine ba (λJ=>?_) (λJ=>?_)
    .have aU:=p.lt J;clear J;cbv;obtain⟨x,hx⟩:=cB B i;have P:=q1.mono (Kp.dQZ kp K (by decide));refine⟨⟨q.bp,p.ix aU⟩,?_⟩;cbv;refine P.load hx p.eq (λcs r=>?_);have r:cs=[.string x.name,.int .i64 x.kind,.bool x.null]:=r;subst r;generalize T:x.name=xn at *;generalize Ov:x.kind=xk at *;cbv;refine(cXA P).mono (λv h3 hR=>?_);obtain⟨O,z3,t3,z',rfl,hr,HN,ab⟩:=hR;have s3:eJG h3 E:=by
      rcases Y.out with g| ⟨m,g,mp,V⟩
      .exact⟨.inl (O _ _ g)⟩
      exact⟨.inr ⟨m,O _ _ g,mp.kp (O.kp []) (by simp),V⟩⟩
     have iv:A .aN .lss z3 z=(B.take i).any λy=>decide (y.name=xn):=by rw[aR A,HN,p.eq,<-T];exact XF hx (by rw[T];exact hr)
     cbv;refine(Xn s3).mono (λv h4 hR=>?_);obtain⟨t,rfl,W,k4,s4⟩:=hR;have w:=(kp.trans (O.kp _)).trans k4;have a:Le h h4:=u.aV (by simpa using L) w;have l:∀e:Int,gU B i x=e->e≠0->e=eE ⟨nm,B,key,only⟩:=λe he X=>by
      have h5:=Gd hx R (by rw[he];exact X);unfold eE;rw[<-M,o];simp only[h5,he];rw[if_neg (by simp),if_neg (by simp),if_pos X]
     have iP:gU B i x=0->∀j,j<i+1->∀y,B[j]? =some y->gU B j y=0:=λe j hj y D=>by
      rcases wM j i with mA|mA
      .exact R j mA y D
      have:j=i:=by omega
      subst this;rw[hx]at D;cases D;exact e
     generalize e1:A .aN .lss z3 z=F at *;generalize f:A .aN .lss xk 1=H;generalize Z:A .aN .gtr xk 3=u3;have Q:gU B i x=if(!t||F)=true then 12 else if(H||u3)=true then 3 else 0:=by unfold gU;rw[T,Ov,<-W,<-iv,<-f,<-Z,aR A,bC A]
     cbv;rw[I.not];cases t with
     |false=>cbv;exact⟨a,12,rfl,l 12 Q (by decide)⟩
     |true=>
      cbv;try rw[e1]
      cases F with
      |true=>cbv;exact⟨a,12,rfl,l 12 Q (by decide)⟩
      |false=>
       cbv;rw[f];cases H with
       |true=>cbv;exact⟨a,3,rfl,l 3 Q (by decide)⟩
       |false=>
        cbv;rw[Z];cases u3 with
        |true=>cbv;exact⟨a,3,rfl,l 3 Q (by decide)⟩
        |false=>
         cbv;refine⟨n-(i+1),_,by omega,by constructor<;>cbv,i+1,p.succ (A:=A),rfl,by omega,w,s4,iP Q⟩
    have lJ:=p.ge J;have h0:kX B=0:=Bb λj hj y D=>R j (by omega) y D;have a:Le h h':=u.aV (by simpa using L) kp;have P:=q1.mono (Kp.dQZ kp K (by decide));generalize e1:A .aN .lss key 0=F;generalize f:A .aN .geq key (A .nat n)=H;have s:eE ⟨nm,B,key,only⟩=if(F||H)=true then 1 else if((B[key.toNat]?).map (·.null)).getD false=true then 13 else 0:=by unfold eE;rw[<-M,o];simp only[h0];rw[if_neg (by simp),if_neg (by simp),if_neg (by simp),<-e1,<-f,aR A,cH A,hn]
    cbv;rw[e1];cases F with
    |true=>cbv;exact⟨a,1,rfl,s.symm⟩
    |false=>
     cbv;rw[f];cases H with
     |true=>cbv;exact⟨a,1,rfl,s.symm⟩
     |false=>
      obtain⟨fG,rY⟩:=Ol A e1 f;obtain⟨x,hx⟩:=cB B key.toNat;rw[hx]at s;cbv;refine⟨⟨q.bp,fG.ix rY⟩,?_⟩;cbv;refine P.cu hx fG.eq (by decide) (λcs r=>?_);have r:cs=[.string x.name,.int .i64 x.kind,.bool x.null]:=r;subst r;have s:eE ⟨nm,B,key,only⟩=if x.null=true then 13 else 0:=s
      generalize x.null=nl at *;cases nl with
      |true=>cbv;exact⟨a,13,rfl,s.symm⟩
      |false=>cbv;exact⟨a,0,rfl,s.symm⟩
theorem Zq(a b:Int)(h:ad)(c d:Value):Ct 97 [.agg #[.int .i64 a,c,d],.int .i64 b] h (λv h'=>Le h h'/\∃z,v=.int .i64 z/\z=IntKind.i64.wrap (a-b)):=by refine cg hJr Tryz.func97 λA e=>?_;cbv;exact⟨Le.refl _,_,rfl,by rw[e.aT];rfl⟩
theorem dKe{len:Nat}(q:Sl 79 bV h (.slice b len cap) xs)(I:Int):
 Ct 96 [.slice b len cap,.int .i64 I,.func (.func 97) #[] #[]] h (λv h'=>Le h h'/\∃(z:Int) (t:Bool),v=.tuple #[.int .i64 z,.bool t]/\PF (xs.map (λx:eY×Bool=>IntKind.i64.wrap (x.1.s-I))) z t):=by
 have f:=q.len;obtain⟨W,Z⟩:=q.bound;have r:(xs.map (λx:eY×Bool=>IntKind.i64.wrap (x.1.s-I))).length=len:=by simp[f]
 generalize hl:xs.map (λx:eY×Bool=>IntKind.i64.wrap (x.1.s-I))=l at r;have O:∀(i:Nat) x,xs[i]? =some x->l[i]? =some ((λx:eY×Bool=>IntKind.i64.wrap (x.1.s-I)) x):=λi x hx=>by rw[<-hl];simp[hx]
 refine cg hJs Tryz.func96 λA c=>?_;cbv;refine aX.go (G:=Int×Int) (λg=>[(9,.v (.int .i64 g.1)),(10,.v (.int .i64 g.2))]) (λ_=>[])
  (λn g h'=>∃i j:Nat,aZ g.1 i/\aZ g.2 j/\n=j-i/\i<=j/\j<=len/\Le h h'/\rV l 0 len=rV l i j) len (0,A .nat len) ⟨?_,?_,?_⟩ ⟨0,len,⟨rfl⟩,⟨by rw[c.nat];rfl⟩,by omega,by omega,by omega,Le.refl _,rfl⟩ ?_
 .cbv
 .cbv
 .cbv
 intro n g h' J;cbv;obtain⟨i,j,a,o,S,X,R,e,D⟩:=J;refine ba (λd=>?_) (λd=>?_)
 .rw[a.yY (A:=A) o,NB]at d;cbv;refine⟨by decide,?_⟩;cbv;have p:=a.fKM (A:=A) o (by omega) (by omega);obtain⟨x,hx⟩:=aJ (xs:=xs) (i:=(i+j) / 2) (by omega);refine⟨⟨q.bp,p.ix (by omega)⟩,?_⟩;cbv;refine(q.mono (e.t _)).load hx p.eq (λcs s=>?_);obtain⟨C,M,K,E,N,L,rfl,P,Q,-⟩:=s;cbv;refine(Zq x.1.s I _ _ _).mono (λv H hR=>?_);obtain⟨F,z,rfl,y⟩:=hR;cbv;have u:l.getD ((i+j) / 2) 0=z:=by rw[yz,O _ _ hx,y];rfl
  have m:=D;rw[rV.eq_1 l i j,if_pos d,u]at m;refine ba (λk=>?_) (λk=>?_)
  .rw[c.aN]at k;have B:z<0:=lA k;rw[if_pos B]at m;clear k B;cbv;refine⟨j-((i+j) / 2+1),(_,g.2),by omega,by constructor<;>cbv,(i+j) / 2+1,j,p.succ (A:=A),o,rfl,by omega,R,e.trans F,m⟩
  rw[c.aN]at k;have B:¬z<0:=kz k;rw[if_neg B]at m;clear k B;cbv;refine⟨(i+j) / 2-i,(g.1,A .conv .i64 (A .aT .shr .u64 (A .conv .u64 (A .aT .add .i64 g.1 g.2)) 1)),by omega,by constructor<;>cbv,i,(i+j) / 2,a,p,rfl,by omega,by omega,e.trans F,m⟩
 rw[a.yY (A:=A) o,decide_eq_false_iff_not]at d;cbv;have m:=D;rw[rV.eq_1 l i j,if_neg d]at m;have Y:=a.yY (A:=A) (w:=A .nat len) (j:=len) ⟨by rw[c.nat];rfl⟩;refine ba (λk=>?_) (λk=>?_)
 .rw[k];rw[Y,NB]at k;cbv;obtain⟨x,hx⟩:=cB xs i;refine⟨⟨q.bp,a.ix (by omega)⟩,?_⟩;cbv;refine(q.mono (e.t _)).load hx a.eq (λcs s=>?_);obtain⟨C,M,K,E,N,L,rfl,P,Q,-⟩:=s;cbv;refine(Zq x.1.s I _ _ _).mono (λv H hR=>?_);obtain⟨F,z,rfl,y⟩:=hR;cbv;refine⟨e.trans F,_,_,rfl,⟨i,a,?_,?_⟩⟩
  .rw[r];exact m.symm
  rw[c.aN];have u:l.getD i 0=z:=by rw[yz,O _ _ hx,y];rfl
  rw[u,r];simp[aN,k];rfl
 rw[k];rw[Y,decide_eq_false_iff_not]at k;cbv;refine⟨e,_,_,rfl,⟨i,a,?_,?_⟩⟩
 .rw[r];exact m.symm
 rw[r];simp[k]
theorem yL{k b w:Nat}{T:List ca}{W:List (eY×Bool)}{a:List bU}(q:jV h c j k b w T W H a e)(I:Int):
 Ct 39 [.zP c,.int .i64 I] h (λv h'=>Le h h'/\∃z t,v=.tuple #[.int .i64 z,.bool t]/\PF (W.map (λx=>IntKind.i64.wrap (x.1.s-I))) z t):=by
 obtain⟨F,G,m,J,p,n,K,r,o,g,s,u,y,d,f,B,C⟩:=q.out;refine cg hKl Tryz.func39 λA E=>?_;cbv;rw[av A];rw[av A];refine cr g ?_;cbv;refine(dKe (f.sl d) I).mono (λv D hR=>?_);obtain⟨l,z,t,rfl,i⟩:=hR;cbv;exact⟨l,z,t,rfl,i⟩
theorem qY{k b w:Nat}{T:List ca}{W:List (eY×Bool)}{a:List bU}(q:jV h c j k b w T W H a e)(n:ByteArray):
 Ct 116 [.zP c,.string n] h (λv h'=>Le h h'/\∃z t,v=.tuple #[.int .i64 z,.bool t]/\PF (T.map (λx=>dA x.S.name n)) z t):=by
 obtain⟨G,I,m,J,r,p,K,s,o,g,u,d,f,y,B,C,D⟩:=q.out;refine cg eJw Tryz.func116 λA F=>?_;cbv;rw[av A];rw[av A];refine cr g ?_;cbv;refine(gKx (f.sl d) n).mono (λv E hR=>?_);obtain⟨l,z,t,rfl,i⟩:=hR;cbv;exact⟨l,z,t,rfl,i⟩
theorem LF{xs:List ca}{x:ca}(q:Sl 61 bN h (.slice b n n) xs)(t:Sl 61 bN h (.slice y 1 j) [x])(a:aZ z i)(p:i<=n)(Y:n<=2^38):
 Ct 211 [.slice b n n,.int .i64 z,.slice y 1 j] h (λv h'=>Le h h'/\∃e c m,v=.slice (zsA e) m c/\h e=none/\m=n+1/\cZ 61 bN h' e c (xs.take i++[x]++xs.drop i)):=by
 obtain⟨A,d⟩:=Ar.ex;have l:=q.len;have B:aZ (A .nat n) n:=⟨by rw[d.nat];rfl⟩;have I:aZ (A .nat 1) 1:=⟨by rw[d.nat];rfl⟩;have e1:A .aN .eql (A .nat 1) 0=false:=by rw[au A,d.nat];rfl
 have E:A .aN .eql z (A .nat n)=decide (i=n):=by rw[au A,d.nat];have:=a.eq;rw[decide_eq_decide];simp only[rz];omega
 have F:A .aN .gtr (A .aT .add .i64 (A .nat n) (A .nat 1)) (A .nat n)=true:=by rw[bC A,NB,d.aT,d.nat];simp only[aT,rz];rw[IntWalk.i64_in _ (by omega)];omega
 have w:=(B.add (A:=A) I (by omega)).sub (A:=A) a (by omega) (by omega);have J:=wK w (bytes:=80) (by omega) (by decide);have u:0<=z/\z<=(n:Int):=by have:=a.eq;omega
 refine fz eXX A Tryz.func211 ?_;cbv;refine⟨u,?_⟩;cbv;rw[e1];cbv;rw[E];by_cases g:i=n
 .rw[ak g];cbv;refine jq q t (by omega) rfl (by decide) (by omega) (λe c L C f N o=>?_);cbv;refine⟨f,e,c,_,rfl,C,rfl,?_⟩;rw[g,l,Bk,kQF,vv];exact o
 rw[bn g];cbv;rw[F];cbv;refine⟨u,?_⟩;cbv;refine⟨J,?_⟩;cbv;rw[dy (A:=A) a];rw[dy (A:=A) w];refine oJ (q.Ht (A:=A) p) (by omega) rfl (by decide) (by omega) rfl rfl (λe c L C f N o=>?_);obtain⟨m,O⟩:∃m,m=n+1:=⟨_,rfl⟩;rw[show i+(n+1-i)=m by omega];have R:aZ (A .nat m) m:=⟨by rw[d.nat];rfl⟩;have P:aZ (A .nat c) c:=⟨by rw[d.nat];rfl⟩;have Q:0<=z/\z<=(m:Int):=by have:=a.eq;omega
 have k:=a.add (A:=A) I (by omega);have K:0<=A .aT .add .i64 z (A .nat 1)/\A .aT .add .i64 z (A .nat 1)<=(m:Int):=by have:=k.eq;omega
 have V:(xs.take i).length=i:=by rw[eA];omega
 cbv;refine⟨Q,?_⟩;cbv;rw[xF (A:=A) a (by omega),cJ (A:=A) a];have D:=t.mono (f.t _);refine AZ o (by decide) (i:=i) (by omega) D (by omega) (by omega) (by omega) rfl (λM S Z o2=>?_);rw[jKK,kQX,RR (by omega),vv]at o2;have r:Le h M:=f.aV (by simpa using C) S;have U:=q.mono (r.t _);generalize ((min 1 (m-i):Nat):Int)=w1;cbv;refine⟨K,?_⟩;cbv;refine⟨u,?_⟩;cbv;rw[xF (A:=A) k (by omega),cJ (A:=A) k,cJ (A:=A) a,cJ (A:=A) a];refine AZ o2 (by decide) (i:=i+1) (by simp;omega) (U.jD (A:=A) a p rfl rfl) (by omega) (by omega) (by omega) rfl (λX T t3 s=>?_);generalize ((min (n-i) (m-(i+1)):Nat):Int)=w2;cbv;refine⟨r.aV (by simpa using C) T,e,c,m,rfl,C,O,?_⟩;have W:(List.take i xs++[x]).length=i+1:=by simp;omega
 have G:List.take (i+1) (List.take i xs++[x])=List.take i xs++[x]:=ie (by omega);have H:List.drop (i+1+(n-i)) (List.take i xs++[x])=[]:=RR (by omega);rw[G,H,vv]at s;exact s
theorem XD{x:eY×Bool}(q:Sl 79 bV h (.slice b n n) xs)(t:Sl 79 bV h (.slice y 1 j) [x])(a:aZ z i)(p:i<=n)(Y:n<=2^38):
 Ct 41 [.slice b n n,.int .i64 z,.slice y 1 j] h (λv h'=>Le h h'/\∃e c m,v=.slice (zsA e) m c/\h e=none/\m=n+1/\cZ 79 bV h' e c (xs.take i++[x]++xs.drop i)):=by
 obtain⟨A,d⟩:=Ar.ex;have l:=q.len;have B:aZ (A .nat n) n:=⟨by rw[d.nat];rfl⟩;have I:aZ (A .nat 1) 1:=⟨by rw[d.nat];rfl⟩;have e1:A .aN .eql (A .nat 1) 0=false:=by rw[au A,d.nat];rfl
 have E:A .aN .eql z (A .nat n)=decide (i=n):=by rw[au A,d.nat];have:=a.eq;rw[decide_eq_decide];simp only[rz];omega
 have F:A .aN .gtr (A .aT .add .i64 (A .nat n) (A .nat 1)) (A .nat n)=true:=by rw[bC A,NB,d.aT,d.nat];simp only[aT,rz];rw[IntWalk.i64_in _ (by omega)];omega
 have w:=(B.add (A:=A) I (by omega)).sub (A:=A) a (by omega) (by omega);have J:=wK w (bytes:=56) (by omega) (by decide);have u:0<=z/\z<=(n:Int):=by have:=a.eq;omega
 refine fz hKk A Tryz.func41 ?_;cbv;refine⟨u,?_⟩;cbv;rw[e1];cbv;rw[E];by_cases g:i=n
 .rw[ak g];cbv;refine jq q t (by omega) rfl (by decide) (by omega) (λe c L C f N o=>?_);cbv;refine⟨f,e,c,_,rfl,C,rfl,?_⟩;rw[g,l,Bk,kQF,vv];exact o
 rw[bn g];cbv;rw[F];cbv;refine⟨u,?_⟩;cbv;refine⟨J,?_⟩;cbv;rw[dy (A:=A) a];rw[dy (A:=A) w];refine oJ (q.Ht (A:=A) p) (by omega) rfl (by decide) (by omega) rfl rfl (λe c L C f N o=>?_);obtain⟨m,O⟩:∃m,m=n+1:=⟨_,rfl⟩;rw[show i+(n+1-i)=m by omega];have R:aZ (A .nat m) m:=⟨by rw[d.nat];rfl⟩;have P:aZ (A .nat c) c:=⟨by rw[d.nat];rfl⟩;have Q:0<=z/\z<=(m:Int):=by have:=a.eq;omega
 have k:=a.add (A:=A) I (by omega);have K:0<=A .aT .add .i64 z (A .nat 1)/\A .aT .add .i64 z (A .nat 1)<=(m:Int):=by have:=k.eq;omega
 have V:(xs.take i).length=i:=by rw[eA];omega
 cbv;refine⟨Q,?_⟩;cbv;rw[xF (A:=A) a (by omega),cJ (A:=A) a];have D:=t.mono (f.t _);refine AZ o (by decide) (i:=i) (by omega) D (by omega) (by omega) (by omega) rfl (λM S Z o2=>?_);rw[jKK,kQX,RR (by omega),vv]at o2;have r:Le h M:=f.aV (by simpa using C) S;have U:=q.mono (r.t _);generalize ((min 1 (m-i):Nat):Int)=w1;cbv;refine⟨K,?_⟩;cbv;refine⟨u,?_⟩;cbv;rw[xF (A:=A) k (by omega),cJ (A:=A) k,cJ (A:=A) a,cJ (A:=A) a];refine AZ o2 (by decide) (i:=i+1) (by simp;omega) (U.jD (A:=A) a p rfl rfl) (by omega) (by omega) (by omega) rfl (λX T t3 s=>?_);generalize ((min (n-i) (m-(i+1)):Nat):Int)=w2;cbv;refine⟨r.aV (by simpa using C) T,e,c,m,rfl,C,O,?_⟩;have W:(List.take i xs++[x]).length=i+1:=by simp;omega
 have G:List.take (i+1) (List.take i xs++[x])=List.take i xs++[x]:=ie (by omega);have H:List.drop (i+1+(n-i)) (List.take i xs++[x])=[]:=RR (by omega);rw[G,H,vv]at s;exact s
theorem fE.form{v:Value}(q:fE h v d):∃b n f a k g c l i e m j,v=.agg #[.slice b n f,.slice a k g,.slice c l i,.slice e m j]:=by obtain⟨b,n,f,a,k,g,c,l,i,e,m,j,w,rfl,-⟩:=q.out;exact⟨_,_,_,_,_,_,_,_,_,_,_,_,rfl⟩
theorem fE.mono{v:Value}(q:fE h v d)(l:Le h h'):fE h' v d:=by obtain⟨g,r,m,i,s,n,j,t,o,k,u,p,w,rfl,a,b,c,e,f⟩:=q.out;exact⟨_,_,_,_,_,_,_,_,_,_,_,_,w,rfl,a.mono (l.t _),b.mono (l.t _),c.mono (l.t _),e.mono (l.t _),f⟩
theorem rO{v:Value}(q:fE h v d):Ct 40 [v] h (λj h'=>Le h h'/\fE h' j d):=by refine(Xi q).mono (λv p hR=>?_);obtain⟨l,x,y,r,s,k,t,n,m,u,o,W,w,R,rfl,g,a,b,c,e,f,i⟩:=hR;exact⟨l,⟨_,_,_,_,_,_,_,_,_,_,_,_,W,rfl,a.sl g,c.sl b,e,f,by rw[i,jKq];simp[Function.comp_def]⟩⟩
def vB(d:DB)(w:List eY):DB:={ d with ai:=w }
def jl(d:DB)(qI:Int)(i:Nat)(is:Bool):DB×Int:=
 if(decide (qI<0)||decide (qI>=8))=true then(d,1)
 else if is=true then(d,7)
 else(vB d (d.ai.take i++[⟨qI,[],[]⟩]++d.ai.drop i),0)
theorem aKt{v:Value}(q:fE h v d)(I:Int)(ab:d.ai.length<=2^37):
 Ct 12 [v,.int .i64 I] h (λv' h'=>∃g e z i is,v'=.tuple #[g,.int .i64 e]/\Le h h'/\fE h' g (jl d I i is).1/\e=(jl d I i is).2/\aZ z i/\PF (d.ai.map λx=>IntKind.i64.wrap (x.s-I)) z is):=by
 obtain⟨A,hA⟩:=Ar.ex;obtain⟨k,F,s,m,G,w,n,K,B,p,L,C,rfl⟩:=q.form;generalize e1:A .aN .lss I 0=u;generalize e2:A .aN .geq I 8=b;have tA:(decide (I<0)||decide (I>=8))=(u||b):=by rw[<-e1,<-e2,aR A,cH A]
 refine fz hKE A Tryz.func12 ?_;cbv;refine(Ea q).mono (λv h1 hR=>?_);obtain⟨l1,c,tb,wb,ct,cw,W,rfl,hc,ni,uR,pI,oV,E,Mu,JK,cs⟩:=hR;cbv;refine(yL cs I).mono (λv h2 hR=>?_);obtain⟨l2,z,t,rfl,hb⟩:=hR;have O:PF (d.ai.map λx=>IntKind.i64.wrap (x.s-I)) z t:=by rw[E,jKq]at hb;exact hb
 have gZ:=O;obtain⟨i,S,hi,ht⟩:=gZ.out;have f:=l1.trans l2;have q2:=q.mono f;have r:(u||b)=true->jl d I i t=(d,1):=λe=>by unfold jl;rw[tA,e];rfl
 have U:(u||b)=false->t=true->jl d I i t=(d,7):=λe P=>by unfold jl;rw[tA,e,P];rfl
 have new:(u||b)=false->t=false->jl d I i t=(vB d (d.ai.take i++[⟨I,[],[]⟩]++d.ai.drop i),0):=λe P=>by unfold jl;rw[tA,e,P];rfl
 have fin:∀(e:Int) (v:Value) (a:ad),Le h a->jl d I i t=(d,e)->fE a v d->∃g e1 z i is,Value.tuple #[v,.int .i64 e]=.tuple #[g,.int .i64 e1]/\Le h a/\fE a g (jl d I i is).1/\e1=(jl d I i is).2/\aZ z i/\PF (d.ai.map λx=>IntKind.i64.wrap (x.s-I)) z is:=
  λe v a l hr hd=>⟨v,e,z,i,t,rfl,l,by rw[hr];exact hd,by rw[hr],S,O⟩
 cbv;rw[e1];cases u with
 |true=>cbv;refine(rO q2).mono (λv a hR=>?_);obtain⟨l,hd⟩:=hR;obtain⟨k,F,s,m,G,w,n,K,B,p,L,C,rfl⟩:=hd.form;cbv;exact fin 1 _ _ (f.trans l) (r rfl) hd
 |false=>
  cbv;rw[e2];cases b with
  |true=>cbv;refine(rO q2).mono (λv a hR=>?_);obtain⟨l,hd⟩:=hR;obtain⟨k,F,s,m,G,w,n,K,B,p,L,C,rfl⟩:=hd.form;cbv;exact fin 1 _ _ (f.trans l) (r rfl) hd
  |false=>
   cases t with
   |true=>cbv;refine(rO q2).mono (λv a hR=>?_);obtain⟨l,hd⟩:=hR;obtain⟨k,F,s,m,G,w,n,K,B,p,L,C,rfl⟩:=hd.form;cbv;exact fin 7 _ _ (f.trans l) (U rfl rfl) hd
   |false=>
    have xG:=cs.mono l2;obtain⟨m1,m2,x3,m3,k3,x4,m4,k4,o,g0,g1,g2,g3,g4,g5,g6,g7⟩:=xG.out;have iv:i<=W.length:=by have:=DZ (d.ai.map λx=>IntKind.i64.wrap (x.s-I)) 0 (d.ai.map λx=>IntKind.i64.wrap (x.s-I)).length (nr _);rw[hi,E];simpa using this.1
    cbv;rw[av A];rw[av A];refine cr g0 ?_;cbv;intro nb a eC e3;have l:Le h2 a:=by rw[e3];exact Le.set eC
    have gx:=(congrFun e3 nb).trans ae;have sx:Sl 79 bV a (.slice (zsA nb) 1 1) [((⟨I,[],[]⟩:eY),true)]:=by
     refine Sl.fresh (xs:=[((⟨I,[],[]⟩:eY),true)]) gx ⟨by simp[bV],λj y R=>?_⟩ (by simp) (by simp);have FH:j=0:=by have:=(ff.1 R).1;simp at this;exact this
     subst FH;simp at R;subst R;exact⟨none,0,0,none,0,0,rfl,Sl.nil,Sl.nil,λ_=>rfl⟩
    have em:m2=cw:=by rw[g4,JK]
    subst em;have Z:i<=m2:=by omega
    have Q:m2<=2^38:=by rw[JK,E,vi];omega
    cbv;refine(XD ((g5.sl g4).mono (l.t _)) sx S Z Q).mono (λv h4 hR=>?_);obtain⟨Y,T,X,m5,rfl,ag,JJ,ow⟩:=hR;have H:=Y _ _ (l _ _ g0);cbv;rw[av A];rw[av A];refine ju H (by simp) (λD N=>?_);have V:=(congrFun N c).trans ae;have k5:Kp [c] h4 D:=by rw[N];exact Kp.set (by simp)
    have M:∀tys,148∉tys->cO tys h4 D:=λtys hn=>by rw[N];exact cO.set H hn
    have oA:Le h D:=((f.trans l).trans Y).aV (by simpa using hc) k5;have FJ:fE D (.agg #[.slice (zsA tb) m1 ct,.slice (zsA T) m5 X,.slice x3 m3 k3,.slice x4 m4 k4]) (vB d (d.ai.take i++[⟨I,[],[]⟩]++d.ai.drop i)):=by
     have J:=l.trans Y;refine⟨_,_,_,_,_,_,_,_,_,_,_,_,_,rfl,((g3.sl g2).mono (J.t _)).mono (M _ (by decide)),(ow.sl ?_).mono (M _ (by decide)),(g6.mono (J.t _)).mono (M _ (by decide)),(g7.mono (J.t _)).mono (M _ (by decide)),?_⟩
     .rw[JJ];simp;omega
     rw[E];simp[vB,kQE,kQD,Function.comp_def]
    cbv;rw[av A];refine cr V ?_;cbv;refine(rO FJ).mono (λv h6 hR=>?_);obtain⟨l6,hd⟩:=hR;have kD:=new rfl rfl;have gI:=hd;generalize vB d (d.ai.take i++[⟨I,[],[]⟩]++d.ai.drop i)=d' at *;obtain⟨k,F,s,m,G,w,n,K,B,p,L,C,rfl⟩:=hd.form;cbv;exact⟨_,0,z,i,false,rfl,oA.trans l6,by rw[kD];exact gI,by rw[kD],S,O⟩
def gR(d:DB)(t:List ca):DB:={ d with ao:=t }
def fN(d:DB)(s:tE)(is:Bool):Int:=
 if eE s≠0 then eE s
 else if is=true then 7
 else if decide (d.ao.length>=8)=true then 4
 else if decide (d.ai.length>0)=true then 18 else 0
def gq(d:DB)(s:tE)(i:Nat)(is:Bool):DB×Int:=
 if fN d s is=0 then(gR d (d.ao.take i++[⟨s,[]⟩]++d.ao.drop i),0)else(d,fN d s is)
theorem Zl{v:Value}(q:fE h v d){sb:Option Addr}{sn sc:Nat}(qs:Sl 202 bH h (.slice sb sn sc) B)(aq:d.ao.length<=2^37)(aw:d.ai.length<=2^37):
 Ct 91 [v,.agg #[.string nm,.slice sb sn sc,.int .i64 key,.bool only]] h (λv' h'=>∃v1 e z i is,v'=.tuple #[v1,.int .i64 e]/\Le h h'/\fE h' v1 (gq d ⟨nm,B,key,only⟩ i is).1/\e=(gq d ⟨nm,B,key,only⟩ i is).2/\aZ z i/\PF (d.ao.map λx=>dA x.S.name nm) z is):=by
 have q0:=q;obtain⟨L,F,P,M,J,R,N,n3,S,O,n4,T,ws,rfl,q1,q2,-,-,qw⟩:=q0.out;refine cg fQY Tryz.func91 λA hA=>?_;cbv;refine(Ea q).mono (λv h1 hR=>?_);obtain⟨l1,c,tb,wb,ct,cw,W,rfl,r,ni,uR,pI,oV,hW,Mu,JK,cs⟩:=hR;cbv;refine(DY (key:=key) (only:=only) (nm:=nm) (qs.mono (l1.t _))).mono (λv h2 hR=>?_);obtain⟨l2,k,rfl,xS⟩:=hR;cbv;refine(wA (cs.mono l2) pI oV).mono (λv h3 hR=>?_);obtain⟨rfl,w,G⟩:=hR;have Lx:Le h h3:=(l1.trans l2).aV (by simpa using r) w;cbv;refine(qY G nm).mono (λv h4 hR=>?_);obtain⟨p,z,t,rfl,hb⟩:=hR;rw[if_pos rfl]at G;obtain⟨i,hz,hi,ht⟩:=hb.out;have n:∀(E:Int) (v:Value) {Z:ad},Le h Z->E≠0->fN d ⟨nm,B,key,only⟩ t=E->fE Z v d->∃v1 e1 z i is,Value.tuple #[v,.int .i64 E]=.tuple #[v1,.int .i64 e1]/\Le h Z/\fE Z v1 (gq d ⟨nm,B,key,only⟩ i is).1/\e1=(gq d ⟨nm,B,key,only⟩ i is).2/\aZ z i/\PF (d.ao.map λx=>dA x.S.name nm) z is:=λE v Z l f r hd=>by
  have:gq d ⟨nm,B,key,only⟩ i t=(d,E):=by unfold gq;rw[r,if_neg f]
  exact⟨v,E,z,i,t,rfl,l,by rw[this];exact hd,by rw[this],hz,hb⟩
 cases t with
 |true=>
  cbv;refine(wA (G.mono p) pI oV).mono (λv X hR=>?_);obtain⟨rfl,k5,H⟩:=hR;have m:Le h X:=(Lx.trans p).aV (by simpa using r) k5;obtain⟨E,f⟩:∃E,E=(if k=0 then 7 else k):=⟨_,rfl⟩;rw[<-f]at H;have C:fN d ⟨nm,B,key,only⟩ true=E:=by unfold fN;rw[f,<-xS];by_cases h0:k=0<;>simp[h0]
  cbv;obtain⟨m1,m2,x3,m3,w,x4,m4,k4,o,g,go,s,g3,g4,g5,g6,g7⟩:=H.out;generalize b:A .aN .neq E 0=u;rw[az A]at b;rw[av A];refine cr g ?_;cbv;rw[az A,b];cases u with
  |true=>cbv;rw[av A];refine cr g ?_;cbv;refine(rO (q.mono m)).mono (λv Y hR=>?_);obtain⟨a,hd⟩:=hR;have I:=hd;obtain⟨L,F,P,M,J,R,N,n3,S,O,n4,T,rfl⟩:=hd.form;cbv;refine cr (a _ _ g) ?_;cbv;refine⟨⟨_,rfl,rfl⟩,?_⟩;cbv;refine cr (a _ _ g) ?_;cbv;refine⟨⟨_,rfl,rfl⟩,?_⟩;cbv;exact n _ _ (m.trans a) (lA b) C I
  |false=>exact absurd (kz b) (by rw[f];by_cases h0:k=0<;>simp[h0])
 |false=>
  generalize eg:A .aN .geq (A .nat F) 8=ug;generalize ew:A .aN .gtr (A .nat J) 0=uw;have hg:ug=decide (d.ao.length>=8):=by rw[<-eg,cH A,hA.nat,q1.len,decide_eq_decide];simp only[rz];omega
  have hw:uw=decide (d.ai.length>0):=by
   rw[<-ew,bC A,hA.nat,q2.len,decide_eq_decide];simp only[rz];have:ws.length=d.ai.length:=by rw[<-qw,vi]
   omega
  cbv;rw[eg];cases ug with
  |true=>
   cbv;refine(wA (G.mono p) pI oV).mono (λv X hR=>?_);obtain⟨rfl,k5,H⟩:=hR;have m:Le h X:=(Lx.trans p).aV (by simpa using r) k5;obtain⟨E,f⟩:∃E,E=(if k=0 then 4 else k):=⟨_,rfl⟩;rw[<-f]at H;have C:fN d ⟨nm,B,key,only⟩ false=E:=by unfold fN;rw[f,<-xS,<-hg];by_cases h0:k=0<;>simp[h0]
   cbv;obtain⟨m1,m2,x3,m3,w,x4,m4,k4,o,g,go,s,g3,g4,g5,g6,g7⟩:=H.out;generalize b:A .aN .neq E 0=u;rw[az A]at b;rw[av A];refine cr g ?_;cbv;rw[az A,b];cases u with
   |true=>cbv;rw[av A];refine cr g ?_;cbv;refine(rO (q.mono m)).mono (λv Y hR=>?_);obtain⟨a,hd⟩:=hR;have I:=hd;obtain⟨L,F,P,M,J,R,N,n3,S,O,n4,T,rfl⟩:=hd.form;cbv;refine cr (a _ _ g) ?_;cbv;refine⟨⟨_,rfl,rfl⟩,?_⟩;cbv;refine cr (a _ _ g) ?_;cbv;refine⟨⟨_,rfl,rfl⟩,?_⟩;cbv;exact n _ _ (m.trans a) (lA b) C I
   |false=>exact absurd (kz b) (by rw[f];by_cases h0:k=0<;>simp[h0])
  |false=>
   cbv;rw[ew];cases uw with
   |true=>
    cbv;refine(wA (G.mono p) pI oV).mono (λv X hR=>?_);obtain⟨rfl,k5,H⟩:=hR;have m:Le h X:=(Lx.trans p).aV (by simpa using r) k5;obtain⟨E,f⟩:∃E,E=(if k=0 then 18 else k):=⟨_,rfl⟩;rw[<-f]at H;have C:fN d ⟨nm,B,key,only⟩ false=E:=by unfold fN;rw[f,<-xS,<-hg,<-hw];by_cases h0:k=0<;>simp[h0]
    cbv;obtain⟨m1,m2,x3,m3,w,x4,m4,k4,o,g,go,s,g3,g4,g5,g6,g7⟩:=H.out;generalize b:A .aN .neq E 0=u;rw[az A]at b;rw[av A];refine cr g ?_;cbv;rw[az A,b];cases u with
    |true=>cbv;rw[av A];refine cr g ?_;cbv;refine(rO (q.mono m)).mono (λv Y hR=>?_);obtain⟨a,hd⟩:=hR;have I:=hd;obtain⟨L,F,P,M,J,R,N,n3,S,O,n4,T,rfl⟩:=hd.form;cbv;refine cr (a _ _ g) ?_;cbv;refine⟨⟨_,rfl,rfl⟩,?_⟩;cbv;refine cr (a _ _ g) ?_;cbv;refine⟨⟨_,rfl,rfl⟩,?_⟩;cbv;exact n _ _ (m.trans a) (lA b) C I
    |false=>exact absurd (kz b) (by rw[f];by_cases h0:k=0<;>simp[h0])
   |false=>
    have H:=G.mono p;have m:Le h h4:=Lx.trans p;obtain⟨E,f⟩:∃E,E=k:=⟨_,rfl⟩;rw[<-f]at H;have C:fN d ⟨nm,B,key,only⟩ false=E:=by unfold fN;rw[f,<-xS,<-hg,<-hw];by_cases h0:k=0<;>simp[h0]
    cbv;obtain⟨m1,m2,x3,m3,w,x4,m4,k4,o,g,go,s,g3,g4,g5,g6,g7⟩:=H.out;generalize b:A .aN .neq E 0=u;rw[az A]at b;rw[av A];refine cr g ?_;cbv;rw[az A,b];cases u with
    |true=>cbv;rw[av A];refine cr g ?_;cbv;refine(rO (q.mono m)).mono (λv Y hR=>?_);obtain⟨a,hd⟩:=hR;have I:=hd;obtain⟨L,F,P,M,J,R,N,n3,S,O,n4,T,rfl⟩:=hd.form;cbv;refine cr (a _ _ g) ?_;cbv;refine⟨⟨_,rfl,rfl⟩,?_⟩;cbv;refine cr (a _ _ g) ?_;cbv;refine⟨⟨_,rfl,rfl⟩,?_⟩;cbv;exact n _ _ (m.trans a) (lA b) C I
    |false=>
     have FQ:E=0:=by have:=kz b;omega
     cbv;rw[av A];rw[av A];refine cr g ?_;cbv;have sT:bN.R h4 [.string nm,.slice sb sn sc,.int .i64 key,.bool only,.slice none 0 0] ⟨⟨nm,B,key,only⟩,[]⟩:=⟨_,_,_,_,_,_,rfl,qs.mono (m.t _),Sl.nil⟩;refine(Xh sT).mono (λv Y hR=>?_);obtain⟨a,d0,d1,d2,d3,d4,rfl,rT⟩:=hR;obtain⟨w1,w2,w3,w4,w5,w6,he,al,ag⟩:=rT;cases he;have V:=a _ _ g;cbv;refine cr V ?_;cbv;refine⟨⟨_,rfl,rfl⟩,?_⟩;cbv;intro nb h7 eC e7;have D:Le Y h7:=by rw[e7];exact Le.set eC
     have gx:=(congrFun e7 nb).trans ae;have sx:Sl 61 bN h7 (.slice (zsA nb) 1 1) [(⟨⟨nm,B,key,only⟩,[]⟩:ca)]:=by
      refine Sl.fresh (xs:=[(⟨⟨nm,B,key,only⟩,[]⟩:ca)]) gx ⟨by simp[bN],λj y hj=>?_⟩ (by simp) (by simp);have FH:j=0:=by have:=(ff.1 hj).1;simp at this;exact this
      subst FH;simp at hj;subst hj;exact⟨_,_,_,_,_,_,rfl,al.mono (D.t _),ag.mono (D.t _)⟩
     have K:=D _ _ V;have em:m1=ct:=by rw[s,Mu]
     subst em;have iv:i<=m1:=by have:=(DZ (d.ao.map λx=>dA x.S.name nm) 0 (d.ao.map λx=>dA x.S.name nm).length (nr _)).1;rw[hi,s];simpa using this
     cbv;refine cr K ?_;cbv;refine⟨⟨_,rfl,rfl⟩,?_⟩;cbv;refine(LF ((g3.sl s).mono ((a.trans D).t _)) sx hz iv (by omega)).mono (λv h8 hR=>?_);obtain⟨l8,ab,ao,m5,rfl,ar,JJ,ot⟩:=hR;have U:=l8 _ _ K;cbv;rw[av A];rw[av A];refine ju U (by simp) (λh9 e9=>?_);have an:=(congrFun e9 c).trans ae;have k9:Kp [c] h8 h9:=by rw[e9];exact Kp.set (by simp)
     have t9:∀tys,148∉tys->cO tys h8 h9:=λtys hn=>by rw[e9];exact cO.set U hn
     have UK:Le h h9:=(((m.trans a).trans D).trans l8).aV (by simpa using r) k9;have FJ:fE h9 (.agg #[.slice (zsA ab) m5 ao,.slice (zsA wb) m2 cw,.slice x3 m3 w,.slice x4 m4 k4]) (gR d (d.ao.take i++[⟨⟨nm,B,key,only⟩,[]⟩]++d.ao.drop i)):=by
      have Q:=(a.trans D).trans l8;refine⟨_,_,_,_,_,_,_,_,_,_,_,_,_,rfl,(ot.sl ?_).mono (t9 _ (by decide)),((g5.sl g4).mono (Q.t _)).mono (t9 _ (by decide)),(g6.mono (Q.t _)).mono (t9 _ (by decide)),(g7.mono (Q.t _)).mono (t9 _ (by decide)),?_⟩
      .rw[JJ];simp;omega
      rw[hW];simp[gR,Function.comp_def]
     cbv;rw[av A];refine cr an ?_;cbv;refine(rO FJ).mono (λv iw hR=>?_);obtain⟨gB,hd⟩:=hR;have kD:gq d ⟨nm,B,key,only⟩ i false=(gR d (d.ao.take i++[⟨⟨nm,B,key,only⟩,[]⟩]++d.ao.drop i),0):=by unfold gq;rw[if_pos (C.trans FQ)]
     have I:=hd;generalize gR d (d.ao.take i++[⟨⟨nm,B,key,only⟩,[]⟩]++d.ao.drop i)=d' at *;obtain⟨L,F,P,M,J,R,N,n3,S,O,n4,T,rfl⟩:=hd.form;cbv;exact⟨_,0,z,i,false,rfl,UK.trans gB,by rw[kD];exact I,by rw[kD],hz,hb⟩
end Go.S
