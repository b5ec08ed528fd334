import Derived.Test.YtifjeceolckgaaaGreatDA
set_option linter.all false
set_option maxRecDepth 100000
namespace Go.S
open Go.Sx Go.Proofs
variable {only:Bool}{s:ByteArray}{d:DB}{e key z:Int}{W xs:List (fJ×Bool)}{cols:List cK}{H a:List cg}{c cap i n p:Nat}{B b:Option Addr}{h h':ad}
def jg(s:ByteArray)(i:Nat):Int:=((s.data.getD i 0).toNat:Int)
def Ec(z:Int):Bool:= !((decide (z<97)||decide (z>122))&&(decide (z<48)||decide (z>57))&&(z !=95))
def BS(s:ByteArray):Bool:= !(decide ((s.size:Int)<1)||decide ((s.size:Int)>12)||decide (jg s 0<97)||decide (jg s 0>122))
def BT(s:ByteArray):Bool:=(List.range s.size).all λi=>Ec (jg s i)
def vL(s:ByteArray):Bool:=jY.any λw=>decide (w=s)
theorem vK:vL s=true↔s∈jY:=by
 unfold vL;rw[mJf];constructor
 .rintro⟨w,a,b⟩;exact mQL b ▸ a
 intro h;exact⟨s,h,by simp⟩
def ao(s:ByteArray):Bool:=BS s&&BT s&& !vL s
structure gZn(h:ad)(sp:Nat):Prop where
 out:(h sp=some (.cells #[.int .u32 0,.int .i32 0,.int .u32 0,.map none] 241 (0,0)))\/
  ∃m,h sp=some (.cells #[.int .u32 1,.int .i32 0,.int .u32 0,.map (some m)] 241 (0,0))/\Mp h m .string (DL jY)/\m≠sp
theorem cJj(w:World):(zeroValue 4).run Tryz.prog w=.ok (.bool false) w:=by
 have h:((Tryz.prog.info? 4).bind (·.zero))=some (.bool false):=by kernel_rfl
 cases a:Tryz.prog.info? 4 with
 |none=>rw[a]at h;cases h
 |some i=>rw[a]at h;simp at h;simp[zeroValue,typeInfo,a,h]
theorem OB{k:Value->ad->Prop}{m:Nat}(c:Mp h m .string (DL jY))(b:∀t,t=vL s->k (.bool t) h):
 fW (λ_=>Tryz.prog) (λ_=>Instr.lookup 239 (.map (some m)) (.string s) false) h k:=by
 by_cases a:s∈jY
 .exact BN dXm u9 c (key:=.string s) (v:=.bool true) True.intro (mQW.2 ⟨s,a,rfl⟩) (b true (vK.2 a).symm)
 refine xD dXm u9 cJj c (key:=.string s) True.intro ?_ (b false ?_)
 .intro p d e;obtain⟨w,f,rfl⟩:=mQW.1 d;cases e;exact a f
 cases i:vL s with
 |false=>rfl
 |true=>exact absurd (vK.1 i) a
set_option maxHeartbeats 2000000 in
theorem aZU{sp:Nat}(q:gZn h sp):
 Ct 141 [.pointer (some ⟨sp,0,none⟩),.string s] h (λv h'=>∃t,v=.bool t/\t=ao s/\Kp [sp] h h'/\gZn h' sp):=by
 refine mQx lZx Tryz.func141 λA p=>?_;have E:A .jO s=(s.size:Int):=by rw[p.jO]
 have L:aS (A .jO s) s.size:=⟨E⟩;have rR:∀z i,aS z i->A .byte s z=jg s i:=λz i a=>by
  rw[p.byte];simp only[jg];rw[a.eq];rfl
 generalize c:A .aI .lss (A .jO s) 1=t1;generalize l:A .aI .gtr (A .jO s) 12=t2;generalize f:A .aI .lss (A .byte s 0) 97=t3;generalize d:A .aI .gtr (A .byte s 0) 122=t4;have J:t2=false->s.size<=12:=λe=>by
  rw[e,p.aI,E]at l;have:=mQO l;omega
 have x:BS s= !(t1||t2||t3||t4):=by rw[<-c,<-l,<-f,<-d,rR 0 0 ⟨rfl⟩,E,p.aI];rfl
 have Z:t1=false->(0:Int)<=0/\0<(s.size:Int):=λe=>by
  rw[e,p.aI,E]at c;have:=mQO c;omega
 have H:∀(t:Bool) (b:Bool),t=false->BS s=false->t=ao s:=λt b r C=>by rw[r,ao,C];rfl
 have To:∀(t:Bool),t=true->t=t:=λ_ _=>rfl;cbv;rw[c];cases t1 with
 |true=>cbv;exact⟨false,rfl,H _ true rfl x,Kp.refl _ _,q⟩
 |false=>
  have D:=Z rfl;cbv;rw[l];cases t2 with
  |true=>cbv;exact⟨false,rfl,H _ true rfl x,Kp.refl _ _,q⟩
  |false=>
   cbv;refine⟨D,?_⟩;cbv;rw[f];cases t3 with
   |true=>cbv;exact⟨false,rfl,H _ true rfl x,Kp.refl _ _,q⟩
   |false=>
    cbv;refine⟨D,?_⟩;cbv;rw[d];cases t4 with
    |true=>cbv;exact⟨false,rfl,H _ true rfl x,Kp.refl _ _,q⟩
    |false=>
     cbv;have Wp:BS s=true:=x;have J:=J rfl;clear x c l f d Z H To;refine aX.go (G:=Int) (λz=>[(27,.v (.int .i64 z))]) (λ_=>[]) (λn z h'=>∃i:Nat,aS z i/\n=s.size-i/\i<=s.size/\h'=h/\∀j,j<i->Ec (jg s j)=true) s.size 0 (by constructor<;>cbv) ⟨0,⟨rfl⟩,rfl,by omega,rfl,λj F=>(by omega)⟩ ?_
     intro n z h' hI;cbv;obtain⟨i,a,TD,hi,rfl,V⟩:=hI;refine bh (λu=>?_) (λu=>?_)
     .rw[a.iJ (A:=A) L]at u;have P:=mQL u;clear u;cbv;refine⟨a.ix P,?_⟩;cbv;rw[rR z i a];generalize X:jg s i=w;generalize c:A .aI .lss w 97=t1;generalize l:A .aI .gtr w 122=t2;generalize f:A .aI .lss w 48=t3;generalize d:A .aI .gtr w 57=t4;generalize y:A .aI .neq w 95=t5;have R:Ec w= !((t1||t2)&&(t3||t4)&&t5):=by rw[<-c,<-l,<-f,<-d,<-y,p.aI];rfl
      have k:Ec w=false->ao s=false:=λe=>by
       have:BT s=false:=by unfold BT;rw[mJQ];exact⟨i,by simp[P],by rw[X,e];simp⟩
       rw[ao,this];simp
      have O:Ec w=true->∀j,j<i+1->Ec (jg s j)=true:=λe j F=>by
       rcases mXi j i with h|h
       .exact V j h
       have:j=i:=by omega
       rw[this,X,e]
      cbv;cases t1 with
      |true=>
       cbv;rw[f];cases t3 with
       |true=>
        cbv;rw[y];cases t5 with
        |true=>cbv;exact⟨false,rfl,(k (by rw[R];rfl)).symm,Kp.refl _ _,q⟩
        |false=>cbv;exact⟨s.size-(i+1),_,by omega,by constructor<;>cbv,i+1,a.succ (A:=A),rfl,by omega,rfl,O (by rw[R];rfl)⟩
       |false=>
        cbv;rw[d];cases t4 with
        |true=>
         cbv;rw[y];cases t5 with
         |true=>cbv;exact⟨false,rfl,(k (by rw[R];rfl)).symm,Kp.refl _ _,q⟩
         |false=>cbv;exact⟨s.size-(i+1),_,by omega,by constructor<;>cbv,i+1,a.succ (A:=A),rfl,by omega,rfl,O (by rw[R];rfl)⟩
        |false=>cbv;exact⟨s.size-(i+1),_,by omega,by constructor<;>cbv,i+1,a.succ (A:=A),rfl,by omega,rfl,O (by rw[R];rfl)⟩
      |false=>
       cbv;rw[l];cases t2 with
       |true=>
        cbv;rw[f];cases t3 with
        |true=>
         cbv;rw[y];cases t5 with
         |true=>cbv;exact⟨false,rfl,(k (by rw[R];rfl)).symm,Kp.refl _ _,q⟩
         |false=>cbv;exact⟨s.size-(i+1),_,by omega,by constructor<;>cbv,i+1,a.succ (A:=A),rfl,by omega,rfl,O (by rw[R];rfl)⟩
        |false=>
         cbv;rw[d];cases t4 with
         |true=>
          cbv;rw[y];cases t5 with
          |true=>cbv;exact⟨false,rfl,(k (by rw[R];rfl)).symm,Kp.refl _ _,q⟩
          |false=>cbv;exact⟨s.size-(i+1),_,by omega,by constructor<;>cbv,i+1,a.succ (A:=A),rfl,by omega,rfl,O (by rw[R];rfl)⟩
         |false=>cbv;exact⟨s.size-(i+1),_,by omega,by constructor<;>cbv,i+1,a.succ (A:=A),rfl,by omega,rfl,O (by rw[R];rfl)⟩
       |false=>cbv;exact⟨s.size-(i+1),_,by omega,by constructor<;>cbv,i+1,a.succ (A:=A),rfl,by omega,rfl,O (by rw[R];rfl)⟩
     rw[a.iJ (A:=A) L]at u;have lN:=mQO u;cbv;have K:BT s=true:=by unfold BT;rw[mXq];intro j F;rw[mJl]at F;exact V j (by omega)
     rw[ai A];have fin:∀t,t=vL s->(A .not t)=ao s:=λt r=>by
      rw[ao,Wp,K,r,p.not];simp
     rcases q.out with g| ⟨m,g,mp,o⟩
     .refine(bQL (a1:=⟨sp,0,none⟩) (Q:=λC=>Kp [sp] h' C/\∃m,h' m=none/\C sp=some (.cells #[.int .u32 0,.int .i32 1,.int .u32 0,.map (some m)] 241 (0,0))/\Mp C m .string (DL jY)) (og g rfl) (og g rfl) (λD hu=>?_)).mono (λv W hR=>?_)
      .have c:=hu.exp g;have N:=(congrFun c sp).trans ae;refine(bKn N).mono (λv U hR=>?_);obtain⟨rfl,I,m,o,B,S⟩:=hR;have k1:Kp [sp] h' D:=by rw[c];exact Kp.set (by simp)
       refine⟨rfl,og B rfl,og B rfl,k1.trans I,m,?_,B,S⟩;have ch:m≠sp:=λe=>by rw[e,N]at o;cases o
       rw[c,aO ch]at o;exact o
      obtain⟨rfl,U,h3,⟨I,m,o,B,S⟩,u3,u4⟩:=hR;have f:=u3.exp B;have g3:=(congrFun f sp).trans ae;have d:=u4.exp g3;have T:=(congrFun d sp).trans ae;rw[f,oW]at d;have k4:Kp [sp] U W:=by rw[d];exact Kp.set (by simp)
      have Y:m≠sp:=λe=>by rw[e,g]at o;cases o
      have M:=S.kp k4 (by simpa using Y);cbv;rw[ai A];refine mQw T ?_;cbv;refine OB M (λt r=>?_);cbv;exact⟨_,rfl,fin t r,I.trans k4,⟨.inr ⟨m,T,M,Y⟩⟩⟩
     refine(Zu (a1:=⟨sp,0,none⟩) (og g rfl)).mono (λv W hR=>?_);obtain⟨rfl,rfl⟩:=hR;cbv;rw[ai A];refine mQw g ?_;cbv;refine OB mp (λt r=>?_);cbv;exact⟨_,rfl,fin t r,Kp.refl _ _,q⟩
theorem cXF{x:cK}{name:ByteArray}(g:h n=some (.cells #[.string name] 9 (0,0))){a:Bool}{s1:ByteArray}:
 Ct 159 [.agg #[.string s1,.int .i64 z,.bool a],.pointer (some ⟨n,0,none⟩)] h (λv h'=>Le h h'/\∃t,v=.bool t/\t=decide (s1=name)):=by
 refine mQx gXA Tryz.func159 λA b=>?_;cbv;refine mQw g ?_;cbv;exact⟨Le.refl _,_,rfl,cS A _ _⟩
theorem dJp{xs:List cK}{len:Nat}(q:Sl 155 bI h (.slice b len cap) xs){o:Nat}{name:ByteArray}(g:h o=some (.cells #[.string name] 9 (0,0))):
 Ct 158 [.slice b len cap,.func (.func 159) #[] #[.pointer (some ⟨o,0,none⟩)]] h (λv h'=>Le h h'/\∃z:Int,v=.int .i64 z/\vg xs (λx:cK=>decide (x.name=name)) z):=by
 have m:=q.len;obtain⟨Y,C⟩:=q.bound;generalize r:(λx:cK=>decide (x.name=name))=p;refine mQx gXB Tryz.func158 λA u=>?_;cbv;refine aX.go (G:=Int) (λz=>[(8,.v (.int .i64 z))]) (λ_=>[]) (λn z h'=>∃i:Nat,aS z i/\n=len-i/\i<=len/\Le h h'/\∀j,j<i->∀y,xs[j]? =some y->p y=false) len 0 (by constructor<;>cbv) ⟨0,⟨rfl⟩,by omega,by omega,Le.refl _,λj d=>(by omega)⟩ ?_
 intro n z h' I;cbv;obtain⟨i,a,B,w,l,V⟩:=I;refine bh (λc=>?_) (λc=>?_)
 .have P:=a.lt c;clear c;cbv;obtain⟨x,hx⟩:=mQA xs i;refine⟨⟨q.aT,a.ix P⟩,?_⟩;cbv;refine(q.mono (l.t _)).load hx a.eq (λcs f=>?_);have f:cs=[.string x.name,.int .i64 x.kind,.bool x.null]:=f;subst f;cbv;refine(cXF (x:=x) (l _ _ g)).mono (λv s hR=>?_);obtain⟨E,t,rfl,e⟩:=hR;have e:t=p x:=by rw[<-r];exact e
  cbv;cases t with
  |true=>cbv;exact⟨l.trans E,z,rfl,⟨.inr ⟨i,x,a,hx,e.symm,V⟩⟩⟩
  |false=>
   cbv;refine⟨len-(i+1),_,by omega,by constructor<;>cbv,i+1,a.succ (A:=A),rfl,by omega,l.trans E,?_⟩
   intro j d y k;rcases mXi j i with h|h
   .exact V j h y k
   have:j=i:=by omega
   subst this;rw[hx]at k;cases k;exact e.symm
 have N:=a.ge c;cbv;refine⟨l,-1,rfl,⟨.inl ⟨rfl,λx hx=>?_⟩⟩⟩;obtain⟨j,d⟩:=mXh hx;have:=(mQB.1 d).1;exact V j (by omega) x d
theorem bQy(q:Sl 155 bI h (.slice b n c) cols){nm:ByteArray}{k:Int}:
 Ct 76 [.agg #[.string nm,.slice b n c,.int .i64 k,.bool only],.string s] h (λv h'=>Le h h'/\∃z t a,v=.tuple #[.int .i64 z,.bool t]/\vg cols (λx=>decide (x.name=s)) a/\z=max a 0/\t=decide (a>=0)):=by
 refine mQx jKg Tryz.func76 λA f=>?_;cbv;intro m d Y e;have l:Le h d:=by rw[e];exact Le.set Y
 have g:=(congrFun e m).trans ae;cbv;refine(dJp (q.mono (l.t _)) g).mono (λv o hR=>?_);obtain⟨j,z,rfl,i⟩:=hR;cbv;exact⟨l.trans j,_,_,z,rfl,i,by rw[f.imax],cf A _ _⟩
theorem Kp.fQr{e:Nat}{c:Array Value}{fr:Nat×Nat}{tys:List Nat}(x:Kp [n] h h')(g:h n=some (.cells c e fr))(f:e∉tys):bR tys h h':=λb d e' N m a=>by
 by_cases J:b=n
 .rw[J,g]at a;cases a;exact absurd m f
 exact x b _ a (by simpa using J)
def iy(cols:List cK)(i:Nat)(c:cK):Int:=
 if(!ao c.name||(cols.take i).any λx=>decide (x.name=c.name))=true then 12 else if(decide (c.kind<1)||decide (c.kind>3))=true then 3 else 0
def lJ(cols:List cK):Int:=((cols.zipIdx.map λ(c,i)=>iy cols i c).find? (λz=>z !=0)).getD 0
def kE(s:FR):Int:=
 if(!ao s.name)=true then 12
 else if(decide ((s.cols.length:Int)<1)||decide ((s.cols.length:Int)>6))=true then 4
 else if lJ s.cols≠0 then lJ s.cols
 else if(decide (s.key<0)||decide (s.key>=(s.cols.length:Int)))=true then 1
 else if((s.cols[s.key.toNat]?).map (·.null)).getD false=true then 13 else 0
theorem ID{c:cK}(h:cols[i]? =some c)(V:∀j,j<i->∀y,cols[j]? =some y->iy cols j y=0)(b:iy cols i c≠0):lJ cols=iy cols i c:=by
 unfold lJ;have:(cols.zipIdx.map λ(c,i)=>iy cols i c).find? (λz=>z !=0)=some (iy cols i c):=by
  rw[nQP];have a:=(mQB.1 h).1;refine⟨by simpa using b,i,by simpa using a,?_,λj d=>?_⟩
  .have:=(mQB.1 h).2;simp[this]
  have t:j<cols.length:=by omega
  have:=V j d cols[j] (by simp[t]);simp[this]
 rw[this];rfl
theorem Dd(V:∀j,j<cols.length->∀y,cols[j]? =some y->iy cols j y=0):lJ cols=0:=by
 unfold lJ;have:(cols.zipIdx.map λ(c,i)=>iy cols i c).find? (λz=>z !=0)=none:=by rw[List.find?_eq_none];intro x hx;obtain⟨⟨c,i⟩,h,rfl⟩:=mQW.1 hx;have:=nQO.1 h;have a:=(mQB.1 this).1;simp[V i a c this]
 rw[this];rfl
theorem aJV{c:cK}(b:cols[i]? =some c)(r:vg cols (λx=>decide (x.name=c.name)) z):
 decide (max z 0<(i:Int))=(cols.take i).any λx=>decide (x.name=c.name):=by
 rcases r.out with⟨-,h⟩|⟨k,x,d,hx,p,V⟩
 .have:=h c (mQz b);simp at this
 have f:=d.eq;by_cases P:k<i
 .rw[mQu (by omega),eq_comm,mJf];exact⟨x,mQz (i:=k) (by rw[mXl,if_pos P];exact hx),p⟩
 have K:¬i<k:=λh=>by have:=V i h c b;simp at this
 rw[mQv (by omega),eq_comm,mZL];intro y e;obtain⟨j,a⟩:=mXh e;rw[mXl]at a;split at a
 .rename_i n;have:=V j (by omega) y a;simpa using this
 cases a
set_option maxHeartbeats 2000000 in
theorem WU{nm:ByteArray}(q:Sl 155 bI h (.slice b n c) cols):
 Ct 62 [.agg #[.string nm,.slice b n c,.int .i64 key,.bool only]] h (λv h'=>Le h h'/\∃z,v=.int .i64 z/\z=kE ⟨nm,cols,key,only⟩):=by
 obtain⟨A,F⟩:=Ar.ex;have B:=q.len;obtain⟨lY,jq⟩:=q.bound;have hn:A .nat n=(cols.length:Int):=by rw[F.nat,B];rfl
 have Cv:aS (A .nat n) n:=⟨by rw[F.nat];rfl⟩;generalize o:A .aI .lss (A .nat n) 1=t1;generalize f:A .aI .gtr (A .nat n) 6=t2;have r:(decide ((cols.length:Int)<1)||decide ((cols.length:Int)>6))=(t1||t2):=by rw[<-o,<-f,hn,bm A,bO A]
 refine mQF jKr A Tryz.func62 ?_;cbv;intro sp R M P;have w:Le h R:=by rw[P];exact Le.set M
 have Q:=(congrFun P sp).trans ae;have s1:gZn R sp:=⟨.inl Q⟩;have q1:=q.mono (w.t _);clear P;cbv;refine(aZU s1).mono (λv h2 hR=>?_);obtain⟨t,rfl,I,L,s2⟩:=hR;cbv;rw[F.not];cases t with
 |false=>cbv;refine⟨w.dJ (by simpa using M) L,12,rfl,?_⟩;unfold kE;rw[<-I];rfl
 |true=>
  cbv;rw[o];have a:(t1||t2)=true->(4:Int)=kE ⟨nm,cols,key,only⟩:=λS=>by
   unfold kE;rw[<-I,r,S];rfl
  cases t1 with
  |true=>cbv;exact⟨w.dJ (by simpa using M) L,4,rfl,a rfl⟩
  |false=>
   cbv;rw[f];cases t2 with
   |true=>cbv;exact⟨w.dJ (by simpa using M) L,4,rfl,a rfl⟩
   |false=>
    clear a o f;cbv;refine aX.go (G:=Int) (λz=>[(25,.v (.int .i64 z))]) (λ_=>[(1,[.string nm,.slice b n c,.int .i64 key,.bool only])])
     (λk z h'=>∃i:Nat,aS z i/\k=n-i/\i<=n/\Kp [sp] R h'/\gZn h' sp/\∀j,j<i->∀y,cols[j]? =some y->iy cols j y=0) n 0 ⟨?_,?_,?_⟩ ⟨0,⟨rfl⟩,by omega,by omega,L,s2,λj hj=>(by omega)⟩ ?_
    .cbv
    .cbv
    .cbv
    intro k z h' hI;cbv;obtain⟨i,u,hk,hi,kp,X,V⟩:=hI;refine bh (λH=>?_) (λH=>?_)
    .have aP:=u.lt H;clear H;cbv;obtain⟨x,hx⟩:=mQA cols i;have O:=q1.mono (Kp.fQr kp Q (by decide));refine⟨⟨q.aT,u.ix aP⟩,?_⟩;cbv;refine O.load hx u.eq (λcs p=>?_);have p:cs=[.string x.name,.int .i64 x.kind,.bool x.null]:=p;subst p;generalize Z:x.name=xn at *;generalize VX:x.kind=xk at *;cbv;refine(bQy O).mono (λv h3 hR=>?_);obtain⟨N,z3,t3,z',rfl,hr,ui,YM⟩:=hR;have s3:gZn h3 sp:=by
      rcases X.out with g| ⟨m,g,mp,S⟩
      .exact⟨.inl (N _ _ g)⟩
      exact⟨.inr ⟨m,N _ _ g,mp.kp (N.kp []) (by simp),S⟩⟩
     have ke:A .aI .lss z3 z=(cols.take i).any λy=>decide (y.name=xn):=by rw[bm A,ui,u.eq,<-Z];exact aJV hx (by rw[Z];exact hr)
     cbv;refine(aZU s3).mono (λv h4 hR=>?_);obtain⟨t,rfl,T,k4,s4⟩:=hR;have J:=(kp.trans (N.kp _)).trans k4;have K:Le h h4:=w.dJ (by simpa using M) J;have l:∀e:Int,iy cols i x=e->e≠0->e=kE ⟨nm,cols,key,only⟩:=λe Y U=>by
      have h5:=ID hx V (by rw[Y];exact U);unfold kE;rw[<-I,r];simp only[h5,Y];rw[if_neg (by simp),if_neg (by simp),if_pos U]
     have pO:iy cols i x=0->∀j,j<i+1->∀y,cols[j]? =some y->iy cols j y=0:=λe j hj y C=>by
      rcases mXi j i with nT|nT
      .exact V j nT y C
      have:j=i:=by omega
      subst this;rw[hx]at C;cases C;exact e
     generalize o:A .aI .lss z3 z=D at *;generalize f:A .aI .lss xk 1=E;generalize W:A .aI .gtr xk 3=u3;have d:iy cols i x=if(!t||D)=true then 12 else if(E||u3)=true then 3 else 0:=by unfold iy;rw[Z,VX,<-T,<-ke,<-f,<-W,bm A,bO A]
     cbv;rw[F.not];cases t with
     |false=>cbv;exact⟨K,12,rfl,l 12 d (by decide)⟩
     |true=>
      cbv;try rw[o]
      cases D with
      |true=>cbv;exact⟨K,12,rfl,l 12 d (by decide)⟩
      |false=>
       cbv;rw[f];cases E with
       |true=>cbv;exact⟨K,3,rfl,l 3 d (by decide)⟩
       |false=>
        cbv;rw[W];cases u3 with
        |true=>cbv;exact⟨K,3,rfl,l 3 d (by decide)⟩
        |false=>
         cbv;refine⟨n-(i+1),_,by omega,by constructor<;>cbv,i+1,u.succ (A:=A),rfl,by omega,J,s4,pO d⟩
    have lN:=u.ge H;have h0:lJ cols=0:=Dd λj hj y C=>V j (by omega) y C;have K:Le h h':=w.dJ (by simpa using M) kp;have O:=q1.mono (Kp.fQr kp Q (by decide));generalize o:A .aI .lss key 0=D;generalize f:A .aI .geq key (A .nat n)=E;have s:kE ⟨nm,cols,key,only⟩=if(D||E)=true then 1 else if((cols[key.toNat]?).map (·.null)).getD false=true then 13 else 0:=by unfold kE;rw[<-I,r];simp only[h0];rw[if_neg (by simp),if_neg (by simp),if_neg (by simp),<-o,<-f,bm A,cf A,hn]
    cbv;rw[o];cases D with
    |true=>cbv;exact⟨K,1,rfl,s.symm⟩
    |false=>
     cbv;rw[f];cases E with
     |true=>cbv;exact⟨K,1,rfl,s.symm⟩
     |false=>
      obtain⟨vm,sJ⟩:=SX A o f;obtain⟨x,hx⟩:=mQA cols key.toNat;rw[hx]at s;cbv;refine⟨⟨q.aT,vm.ix sJ⟩,?_⟩;cbv;refine O.cC hx vm.eq (by decide) (λcs p=>?_);have p:cs=[.string x.name,.int .i64 x.kind,.bool x.null]:=p;subst p;have s:kE ⟨nm,cols,key,only⟩=if x.null=true then 13 else 0:=s
      generalize x.null=nl at *;cases nl with
      |true=>cbv;exact⟨K,13,rfl,s.symm⟩
      |false=>cbv;exact⟨K,0,rfl,s.symm⟩
theorem bXe(a b:Int)(h:ad)(c d:Value):Ct 106 [.agg #[.int .i64 a,c,d],.int .i64 b] h (λv h'=>Le h h'/\∃z,v=.int .i64 z/\z=IntKind.i64.wrap (a-b)):=by refine mQx gZi Tryz.func106 λA e=>?_;cbv;exact⟨Le.refl _,_,rfl,by rw[e.bB];rfl⟩
theorem fJP{len:Nat}(q:Sl 55 cX h (.slice b len cap) xs)(s:Int):
 Ct 105 [.slice b len cap,.int .i64 s,.func (.func 106) #[] #[]] h (λv h'=>Le h h'/\∃(z:Int) (t:Bool),v=.tuple #[.int .i64 z,.bool t]/\aQc (xs.map (λx:fJ×Bool=>IntKind.i64.wrap (x.1.s-s))) z t):=by
 have f:=q.len;obtain⟨Y,T⟩:=q.bound;have m:(xs.map (λx:fJ×Bool=>IntKind.i64.wrap (x.1.s-s))).length=len:=by simp[f]
 generalize F:xs.map (λx:fJ×Bool=>IntKind.i64.wrap (x.1.s-s))=l at m;have S:∀(i:Nat) x,xs[i]? =some x->l[i]? =some ((λx:fJ×Bool=>IntKind.i64.wrap (x.1.s-s)) x):=λi x hx=>by rw[<-F];simp[hx]
 refine mQx gZj Tryz.func105 λA c=>?_;cbv;refine aX.go (G:=Int×Int) (λg=>[(9,.v (.int .i64 g.1)),(10,.v (.int .i64 g.2))]) (λ_=>[])
  (λn g h'=>∃i j:Nat,aS g.1 i/\aS g.2 j/\n=j-i/\i<=j/\j<=len/\Le h h'/\uc l 0 len=uc l i j) len (0,A .nat len) ⟨?_,?_,?_⟩ ⟨0,len,⟨rfl⟩,⟨by rw[c.nat];rfl⟩,by omega,by omega,by omega,Le.refl _,rfl⟩ ?_
 .cbv
 .cbv
 .cbv
 intro n g h' I;cbv;obtain⟨i,j,a,k,R,H,X,e,K⟩:=I;refine bh (λd=>?_) (λd=>?_)
 .rw[a.iJ (A:=A) k,mQR]at d;cbv;refine⟨by decide,?_⟩;cbv;have p:=a.bKH (A:=A) k (by omega) (by omega);obtain⟨x,hx⟩:=aE (xs:=xs) (i:=(i+j) / 2) (by omega);refine⟨⟨q.aT,p.ix (by omega)⟩,?_⟩;cbv;refine(q.mono (e.t _)).load hx p.eq (λcs y=>?_);obtain⟨B,M,J,C,N,L,rfl,O,P,-⟩:=y;cbv;refine(bXe x.1.s s _ _ _).mono (λv D hR=>?_);obtain⟨E,z,rfl,u⟩:=hR;cbv;have r:l.getD ((i+j) / 2) 0=z:=by rw[mXE,S _ _ hx,u];rfl
  have U:=K;rw[uc.eq_1 l i j,if_pos d,r]at U;refine bh (λo=>?_) (λo=>?_)
  .rw[c.aI]at o;have Q:z<0:=mQL o;rw[if_pos Q]at U;clear o Q;cbv;refine⟨j-((i+j) / 2+1),(_,g.2),by omega,by constructor<;>cbv,(i+j) / 2+1,j,p.succ (A:=A),k,rfl,by omega,X,e.trans E,U⟩
  rw[c.aI]at o;have Q:¬z<0:=mQO o;rw[if_neg Q]at U;clear o Q;cbv;refine⟨(i+j) / 2-i,(g.1,A .conv .i64 (A .bB .shr .u64 (A .conv .u64 (A .bB .add .i64 g.1 g.2)) 1)),by omega,by constructor<;>cbv,i,(i+j) / 2,a,p,rfl,by omega,by omega,e.trans E,U⟩
 rw[a.iJ (A:=A) k,decide_eq_false_iff_not]at d;cbv;have U:=K;rw[uc.eq_1 l i j,if_neg d]at U;have V:=a.iJ (A:=A) (w:=A .nat len) (j:=len) ⟨by rw[c.nat];rfl⟩;refine bh (λo=>?_) (λo=>?_)
 .rw[o];rw[V,mQR]at o;cbv;obtain⟨x,hx⟩:=mQA xs i;refine⟨⟨q.aT,a.ix (by omega)⟩,?_⟩;cbv;refine(q.mono (e.t _)).load hx a.eq (λcs y=>?_);obtain⟨B,M,J,C,N,L,rfl,O,P,-⟩:=y;cbv;refine(bXe x.1.s s _ _ _).mono (λv D hR=>?_);obtain⟨E,z,rfl,u⟩:=hR;cbv;refine⟨e.trans E,_,_,rfl,⟨i,a,?_,?_⟩⟩
  .rw[m];exact U.symm
  rw[c.aI];have r:l.getD i 0=z:=by rw[mXE,S _ _ hx,u];rfl
  rw[r,m];simp[aI,o];rfl
 rw[o];rw[V,decide_eq_false_iff_not]at o;cbv;refine⟨e,_,_,rfl,⟨i,a,?_,?_⟩⟩
 .rw[m];exact U.symm
 rw[m];simp[o]
theorem Ay{j k b w:Nat}{T:List cW}(q:lA h c j k b w T W H a e)(s:Int):
 Ct 39 [.pointer (some ⟨c,0,none⟩),.int .i64 s] h (λv h'=>Le h h'/\∃z t,v=.tuple #[.int .i64 z,.bool t]/\aQc (W.map (λx=>IntKind.i64.wrap (x.1.s-s))) z t):=by
 obtain⟨G,I,m,J,p,n,K,r,o,g,u,y,B,d,f,C,D⟩:=q.out;refine mQx jKJ Tryz.func39 λA F=>?_;cbv;rw[ai A];rw[ai A];refine mQw g ?_;cbv;refine(fJP (f.sl d) s).mono (λv E hR=>?_);obtain⟨l,z,t,rfl,i⟩:=hR;cbv;exact⟨l,z,t,rfl,i⟩
theorem vu{j k b w:Nat}{T:List cW}(q:lA h c j k b w T W H a e)(name:ByteArray):
 Ct 99 [.pointer (some ⟨c,0,none⟩),.string name] h (λv h'=>Le h h'/\∃z t,v=.tuple #[.int .i64 z,.bool t]/\aQc (T.map (λx=>eC x.S.name name)) z t):=by
 obtain⟨F,G,m,I,p,n,J,r,o,g,s,d,f,u,y,B,C⟩:=q.out;refine mQx gKX Tryz.func99 λA E=>?_;cbv;rw[ai A];rw[ai A];refine mQw g ?_;cbv;refine(iKd (f.sl d) name).mono (λv D hR=>?_);obtain⟨l,z,t,rfl,i⟩:=hR;cbv;exact⟨l,z,t,rfl,i⟩
theorem aJK{xs:List cW}{x:cW}(q:Sl 51 ef h (.slice b n n) xs)(y:Sl 51 ef h (.slice B 1 p) [x])(a:aS z i)(r:i<=n)(Y:n<=2^38):
 Ct 100 [.slice b n n,.int .i64 z,.slice B 1 p] h (λv h'=>Le h h'/\∃e c m,v=.slice (some ⟨e,0,none⟩) m c/\h e=none/\m=n+1/\fX 51 ef h' e c (xs.take i++[x]++xs.drop i)):=by
 obtain⟨A,d⟩:=Ar.ex;have l:=q.len;have C:aS (A .nat n) n:=⟨by rw[d.nat];rfl⟩;have K:aS (A .nat 1) 1:=⟨by rw[d.nat];rfl⟩;have E:A .aI .eql (A .nat 1) 0=false:=by rw[aA A,d.nat];rfl
 have F:A .aI .eql z (A .nat n)=decide (i=n):=by rw[aA A,d.nat];have:=a.eq;rw[decide_eq_decide];simp only[mQV];omega
 have G:A .aI .gtr (A .bB .add .i64 (A .nat n) (A .nat 1)) (A .nat n)=true:=by rw[bO A,mQR,d.bB,d.nat];simp only[bB,mQV];rw[IntWalk.i64_in _ (by omega)];omega
 have s:=(C.add (A:=A) K (by omega)).sub (A:=A) a (by omega) (by omega);have D:=yy s (bytes:=80) (by omega) (by decide);have k:0<=z/\z<=(n:Int):=by have:=a.eq;omega
 refine mQF gZm A Tryz.func100 ?_;cbv;refine⟨k,?_⟩;cbv;rw[E];cbv;rw[F];by_cases Z:i=n
 .rw[mQu Z];cbv;refine lz q y (by omega) rfl (by decide) (by omega) (λe c L g f N o=>?_);cbv;refine⟨f,e,c,_,rfl,g,rfl,?_⟩;rw[Z,l,mXL,mJD,mXb];exact o
 rw[mQv Z];cbv;rw[G];cbv;refine⟨k,?_⟩;cbv;refine⟨D,?_⟩;cbv;rw[fh (A:=A) a];rw[fh (A:=A) s];refine pU (q.Om (A:=A) r) (by omega) rfl (by decide) (by omega) rfl rfl (λe c L g f N o=>?_);obtain⟨m,O⟩:∃m,m=n+1:=⟨_,rfl⟩;rw[show i+(n+1-i)=m by omega];have T:aS (A .nat m) m:=⟨by rw[d.nat];rfl⟩;have S:aS (A .nat c) c:=⟨by rw[d.nat];rfl⟩;have J:0<=z/\z<=(m:Int):=by have:=a.eq;omega
 have j:=a.add (A:=A) K (by omega);have w:0<=A .bB .add .i64 z (A .nat 1)/\A .bB .add .i64 z (A .nat 1)<=(m:Int):=by have:=j.eq;omega
 have V:(xs.take i).length=i:=by rw[mQK];omega
 cbv;refine⟨J,?_⟩;cbv;rw[CZ (A:=A) a (by omega),gA (A:=A) a];have P:=y.mono (f.t _);refine Db o (by decide) (i:=i) (by omega) P (by omega) (by omega) (by omega) rfl (λM Q t2 o2=>?_);rw[mKG,mKF,mXB (by omega),mXb]at o2;have t:Le h M:=f.dJ (by simpa using g) Q;have U:=q.mono (t.t _);generalize ((min 1 (m-i):Nat):Int)=w1;cbv;refine⟨w,?_⟩;cbv;refine⟨k,?_⟩;cbv;rw[CZ (A:=A) j (by omega),gA (A:=A) j,gA (A:=A) a,gA (A:=A) a];refine Db o2 (by decide) (i:=i+1) (by simp;omega) (U.uW (A:=A) a r rfl rfl) (by omega) (by omega) (by omega) rfl (λX R t3 u=>?_);generalize ((min (n-i) (m-(i+1)):Nat):Int)=w2;cbv;refine⟨t.dJ (by simpa using g) R,e,c,m,rfl,g,O,?_⟩;have W:(List.take i xs++[x]).length=i+1:=by simp;omega
 have H:List.take (i+1) (List.take i xs++[x])=List.take i xs++[x]:=mXa (by omega);have I:List.drop (i+1+(n-i)) (List.take i xs++[x])=[]:=mXB (by omega);rw[H,I,mXb]at u;exact u
theorem aJJ{x:fJ×Bool}(q:Sl 55 cX h (.slice b n n) xs)(y:Sl 55 cX h (.slice B 1 p) [x])(a:aS z i)(r:i<=n)(Y:n<=2^38):
 Ct 41 [.slice b n n,.int .i64 z,.slice B 1 p] h (λv h'=>Le h h'/\∃e c m,v=.slice (some ⟨e,0,none⟩) m c/\h e=none/\m=n+1/\fX 55 cX h' e c (xs.take i++[x]++xs.drop i)):=by
 obtain⟨A,d⟩:=Ar.ex;have l:=q.len;have C:aS (A .nat n) n:=⟨by rw[d.nat];rfl⟩;have K:aS (A .nat 1) 1:=⟨by rw[d.nat];rfl⟩;have E:A .aI .eql (A .nat 1) 0=false:=by rw[aA A,d.nat];rfl
 have F:A .aI .eql z (A .nat n)=decide (i=n):=by rw[aA A,d.nat];have:=a.eq;rw[decide_eq_decide];simp only[mQV];omega
 have G:A .aI .gtr (A .bB .add .i64 (A .nat n) (A .nat 1)) (A .nat n)=true:=by rw[bO A,mQR,d.bB,d.nat];simp only[bB,mQV];rw[IntWalk.i64_in _ (by omega)];omega
 have s:=(C.add (A:=A) K (by omega)).sub (A:=A) a (by omega) (by omega);have D:=yy s (bytes:=56) (by omega) (by decide);have k:0<=z/\z<=(n:Int):=by have:=a.eq;omega
 refine mQF jKH A Tryz.func41 ?_;cbv;refine⟨k,?_⟩;cbv;rw[E];cbv;rw[F];by_cases Z:i=n
 .rw[mQu Z];cbv;refine lz q y (by omega) rfl (by decide) (by omega) (λe c L g f N o=>?_);cbv;refine⟨f,e,c,_,rfl,g,rfl,?_⟩;rw[Z,l,mXL,mJD,mXb];exact o
 rw[mQv Z];cbv;rw[G];cbv;refine⟨k,?_⟩;cbv;refine⟨D,?_⟩;cbv;rw[fh (A:=A) a];rw[fh (A:=A) s];refine pU (q.Om (A:=A) r) (by omega) rfl (by decide) (by omega) rfl rfl (λe c L g f N o=>?_);obtain⟨m,O⟩:∃m,m=n+1:=⟨_,rfl⟩;rw[show i+(n+1-i)=m by omega];have T:aS (A .nat m) m:=⟨by rw[d.nat];rfl⟩;have S:aS (A .nat c) c:=⟨by rw[d.nat];rfl⟩;have J:0<=z/\z<=(m:Int):=by have:=a.eq;omega
 have j:=a.add (A:=A) K (by omega);have w:0<=A .bB .add .i64 z (A .nat 1)/\A .bB .add .i64 z (A .nat 1)<=(m:Int):=by have:=j.eq;omega
 have V:(xs.take i).length=i:=by rw[mQK];omega
 cbv;refine⟨J,?_⟩;cbv;rw[CZ (A:=A) a (by omega),gA (A:=A) a];have P:=y.mono (f.t _);refine Db o (by decide) (i:=i) (by omega) P (by omega) (by omega) (by omega) rfl (λM Q t2 o2=>?_);rw[mKG,mKF,mXB (by omega),mXb]at o2;have t:Le h M:=f.dJ (by simpa using g) Q;have U:=q.mono (t.t _);generalize ((min 1 (m-i):Nat):Int)=w1;cbv;refine⟨w,?_⟩;cbv;refine⟨k,?_⟩;cbv;rw[CZ (A:=A) j (by omega),gA (A:=A) j,gA (A:=A) a,gA (A:=A) a];refine Db o2 (by decide) (i:=i+1) (by simp;omega) (U.uW (A:=A) a r rfl rfl) (by omega) (by omega) (by omega) rfl (λX R t3 u=>?_);generalize ((min (n-i) (m-(i+1)):Nat):Int)=w2;cbv;refine⟨t.dJ (by simpa using g) R,e,c,m,rfl,g,O,?_⟩;have W:(List.take i xs++[x]).length=i+1:=by simp;omega
 have H:List.take (i+1) (List.take i xs++[x])=List.take i xs++[x]:=mXa (by omega);have I:List.drop (i+1+(n-i)) (List.take i xs++[x])=[]:=mXB (by omega);rw[H,I,mXb]at u;exact u
theorem ik.form{v:Value}(q:ik h v d):∃b n f a k g c l i e m j,v=.agg #[.slice b n f,.slice a k g,.slice c l i,.slice e m j]:=by obtain⟨b,n,f,a,k,g,c,l,i,e,m,j,w,rfl,-⟩:=q.out;exact⟨_,_,_,_,_,_,_,_,_,_,_,_,rfl⟩
theorem ik.mono{v:Value}(q:ik h v d)(l:Le h h'):ik h' v d:=by obtain⟨g,r,m,i,s,n,j,t,o,k,u,p,w,rfl,a,b,c,e,f⟩:=q.out;exact⟨_,_,_,_,_,_,_,_,_,_,_,_,w,rfl,a.mono (l.t _),b.mono (l.t _),c.mono (l.t _),e.mono (l.t _),f⟩
theorem tL{v:Value}(q:ik h v d):Ct 40 [v] h (λj h'=>Le h h'/\ik h' j d):=by refine(cJA q).mono (λv p hR=>?_);obtain⟨l,w,x,r,s,k,t,n,m,u,o,W,B,A,rfl,g,a,b,c,e,f,i⟩:=hR;exact⟨l,⟨_,_,_,_,_,_,_,_,_,_,_,_,W,rfl,a.sl g,c.sl b,e,f,by rw[i,mXS];simp[Function.comp_def]⟩⟩
def xB(d:DB)(w:List fJ):DB:={ d with aq:=w }
def jh(d:DB)(sy:Int)(i:Nat)(is:Bool):DB×Int:=
 if(decide (sy<0)||decide (sy>=8))=true then(d,1)
 else if is=true then(d,7)
 else(xB d (d.aq.take i++[⟨sy,[],[]⟩]++d.aq.drop i),0)
theorem cZs{v:Value}(q:ik h v d)(s:Int)(af:d.aq.length<=2^37):
 Ct 14 [v,.int .i64 s] h (λv' h'=>∃g e z i is,v'=.tuple #[g,.int .i64 e]/\Le h h'/\ik h' g (jh d s i is).1/\e=(jh d s i is).2/\aS z i/\aQc (d.aq.map λx=>IntKind.i64.wrap (x.s-s)) z is):=by
 obtain⟨A,hA⟩:=Ar.ex;obtain⟨m,H,B,n,I,C,p,J,D,w,K,E,rfl⟩:=q.form;generalize b:A .aI .lss s 0=u;generalize e2:A .aI .geq s 8=f;have M:(decide (s<0)||decide (s>=8))=(u||f):=by rw[<-b,<-e2,bm A,cf A]
 refine mQF lKY A Tryz.func14 ?_;cbv;refine(Nv q).mono (λv h1 hR=>?_);obtain⟨l1,c,tb,wb,ct,cw,W,rfl,hc,wB,Ai,wF,tZ,G,ag,Uw,cs⟩:=hR;cbv;refine(Ay cs s).mono (λv h2 hR=>?_);obtain⟨l2,z,t,rfl,hb⟩:=hR;have oz:aQc (d.aq.map λx=>IntKind.i64.wrap (x.s-s)) z t:=by rw[G,mXS]at hb;exact hb
 have jq:=oz;obtain⟨i,T,hi,ht⟩:=jq.out;have k:=l1.trans l2;have q2:=q.mono k;have r:(u||f)=true->jh d s i t=(d,1):=λe=>by unfold jh;rw[M,e];rfl
 have V:(u||f)=false->t=true->jh d s i t=(d,7):=λe R=>by unfold jh;rw[M,e,R];rfl
 have new:(u||f)=false->t=false->jh d s i t=(xB d (d.aq.take i++[⟨s,[],[]⟩]++d.aq.drop i),0):=λe R=>by unfold jh;rw[M,e,R];rfl
 have fin:∀(e:Int) (v:Value) (a:ad),Le h a->jh d s i t=(d,e)->ik a v d->∃g b z i is,Value.tuple #[v,.int .i64 e]=.tuple #[g,.int .i64 b]/\Le h a/\ik a g (jh d s i is).1/\b=(jh d s i is).2/\aS z i/\aQc (d.aq.map λx=>IntKind.i64.wrap (x.s-s)) z is:=
  λe v a l hr hd=>⟨v,e,z,i,t,rfl,l,by rw[hr];exact hd,by rw[hr],T,oz⟩
 cbv;rw[b];cases u with
 |true=>cbv;refine(tL q2).mono (λv a hR=>?_);obtain⟨l,hd⟩:=hR;obtain⟨m,H,B,n,I,C,p,J,D,w,K,E,rfl⟩:=hd.form;cbv;exact fin 1 _ _ (k.trans l) (r rfl) hd
 |false=>
  cbv;rw[e2];cases f with
  |true=>cbv;refine(tL q2).mono (λv a hR=>?_);obtain⟨l,hd⟩:=hR;obtain⟨m,H,B,n,I,C,p,J,D,w,K,E,rfl⟩:=hd.form;cbv;exact fin 1 _ _ (k.trans l) (r rfl) hd
  |false=>
   cases t with
   |true=>cbv;refine(tL q2).mono (λv a hR=>?_);obtain⟨l,hd⟩:=hR;obtain⟨m,H,B,n,I,C,p,J,D,w,K,E,rfl⟩:=hd.form;cbv;exact fin 7 _ _ (k.trans l) (V rfl rfl) hd
   |false=>
    have Bs:=cs.mono l2;obtain⟨m1,m2,x3,m3,k3,x4,m4,k4,o,g0,g1,g2,g3,g4,g5,g6,g7⟩:=Bs.out;have ke:i<=W.length:=by have:=Nt (d.aq.map λx=>IntKind.i64.wrap (x.s-s)) 0 (d.aq.map λx=>IntKind.i64.wrap (x.s-s)).length (mQC _);rw[hi,G];simpa using this.1
    cbv;rw[ai A];rw[ai A];refine mQw g0 ?_;cbv;intro nb a gY e3;have l:Le h2 a:=by rw[e3];exact Le.set gY
    have gx:=(congrFun e3 nb).trans ae;have sx:Sl 55 cX a (.slice (some ⟨nb,0,none⟩) 1 1) [((⟨s,[],[]⟩:fJ),true)]:=by
     refine Sl.fresh (xs:=[((⟨s,[],[]⟩:fJ),true)]) gx ⟨by simp[cX],λj y S=>?_⟩ (by simp) (by simp);have Cy:j=0:=by have:=(mQB.1 S).1;simp at this;exact this
     subst Cy;simp at S;subst S;exact⟨none,0,0,none,0,0,rfl,Sl.nil,Sl.nil,λ_=>rfl⟩
    have em:m2=cw:=by rw[g4,Uw]
    subst em;have U:i<=m2:=by omega
    have O:m2<=2^38:=by rw[Uw,G,mQN];omega
    cbv;refine(aJJ ((g5.sl g4).mono (l.t _)) sx T U O).mono (λv h4 hR=>?_);obtain⟨Y,Q,ab,m5,rfl,aj,N,ow⟩:=hR;have X:=Y _ _ (l _ _ g0);cbv;rw[ai A];rw[ai A];refine ja X (by simp) (λF P=>?_);have Z:=(congrFun P c).trans ae;have k5:Kp [c] h4 F:=by rw[P];exact Kp.set (by simp)
    have L:∀tys,130∉tys->bR tys h4 F:=λtys hn=>by rw[P];exact bR.set X hn
    have xS:Le h F:=((k.trans l).trans Y).dJ (by simpa using hc) k5;have JB:ik F (.agg #[.slice (some ⟨tb,0,none⟩) m1 ct,.slice (some ⟨Q,0,none⟩) m5 ab,.slice x3 m3 k3,.slice x4 m4 k4]) (xB d (d.aq.take i++[⟨s,[],[]⟩]++d.aq.drop i)):=by
     have rK:=l.trans Y;refine⟨_,_,_,_,_,_,_,_,_,_,_,_,_,rfl,((g3.sl g2).mono (rK.t _)).mono (L _ (by decide)),(ow.sl ?_).mono (L _ (by decide)),(g6.mono (rK.t _)).mono (L _ (by decide)),(g7.mono (rK.t _)).mono (L _ (by decide)),?_⟩
     .rw[N];simp;omega
     rw[G];simp[xB,mKE,mKD,Function.comp_def]
    cbv;rw[ai A];refine mQw Z ?_;cbv;refine(tL JB).mono (λv h6 hR=>?_);obtain⟨l6,hd⟩:=hR;have qF:=new rfl rfl;have jX:=hd;generalize xB d (d.aq.take i++[⟨s,[],[]⟩]++d.aq.drop i)=d' at *;obtain⟨m,H,B,n,I,C,p,J,D,w,K,E,rfl⟩:=hd.form;cbv;exact⟨_,0,z,i,false,rfl,xS.trans l6,by rw[qF];exact jX,by rw[qF],T,oz⟩
def tm(d:DB)(t:List cW):DB:={ d with az:=t }
def mA(d:DB)(s:FR)(is:Bool):Int:=
 if kE s≠0 then kE s
 else if is=true then 7
 else if decide (d.az.length>=8)=true then 4
 else if decide (d.aq.length>0)=true then 18 else 0
def nZ(d:DB)(s:FR)(i:Nat)(is:Bool):DB×Int:=
 if mA d s is=0 then(tm d (d.az.take i++[⟨s,[]⟩]++d.az.drop i),0)else(d,mA d s is)
theorem bQV{v:Value}(q:ik h v d){nm:ByteArray}{sb:Option Addr}{sn sc:Nat}(qs:Sl 155 bI h (.slice sb sn sc) cols)(aw:d.az.length<=2^37)(az:d.aq.length<=2^37):
 Ct 35 [v,.agg #[.string nm,.slice sb sn sc,.int .i64 key,.bool only]] h (λv' h'=>∃v1 e z i is,v'=.tuple #[v1,.int .i64 e]/\Le h h'/\ik h' v1 (nZ d ⟨nm,cols,key,only⟩ i is).1/\e=(nZ d ⟨nm,cols,key,only⟩ i is).2/\aS z i/\aQc (d.az.map λx=>eC x.S.name nm) z is):=by
 have q0:=q;obtain⟨D,B,I,F,C,K,G,n3,M,H,n4,O,ws,rfl,q1,q2,-,-,qw⟩:=q0.out;refine mQx jKN Tryz.func35 λA hA=>?_;cbv;refine(Nv q).mono (λv h1 hR=>?_);obtain⟨l1,c,tb,wb,ct,cw,W,rfl,p,wB,Ai,wF,tZ,hW,ab,Uw,cs⟩:=hR;cbv;refine(WU (key:=key) (only:=only) (nm:=nm) (qs.mono (l1.t _))).mono (λv h2 hR=>?_);obtain⟨l2,k,rfl,lK⟩:=hR;cbv;refine(Nh (cs.mono l2) wF tZ).mono (λv h3 hR=>?_);obtain⟨rfl,s,Z⟩:=hR;have Q:Le h h3:=(l1.trans l2).dJ (by simpa using p) s;cbv;refine(vu Z nm).mono (λv h4 hR=>?_);obtain⟨n,z,t,rfl,hb⟩:=hR;rw[if_pos rfl]at Z;obtain⟨i,hz,hi,ht⟩:=hb.out;have m:∀(E:Int) (v:Value) {U:ad},Le h U->E≠0->mA d ⟨nm,cols,key,only⟩ t=E->ik U v d->∃v1 e1 z i is,Value.tuple #[v,.int .i64 E]=.tuple #[v1,.int .i64 e1]/\Le h U/\ik U v1 (nZ d ⟨nm,cols,key,only⟩ i is).1/\e1=(nZ d ⟨nm,cols,key,only⟩ i is).2/\aS z i/\aQc (d.az.map λx=>eC x.S.name nm) z is:=λE v U l f p hd=>by
  have:nZ d ⟨nm,cols,key,only⟩ i t=(d,E):=by unfold nZ;rw[p,if_neg f]
  exact⟨v,E,z,i,t,rfl,l,by rw[this];exact hd,by rw[this],hz,hb⟩
 cases t with
 |true=>
  cbv;refine(Nh (Z.mono n) wF tZ).mono (λv P hR=>?_);obtain⟨rfl,k5,L⟩:=hR;have S:Le h P:=(Q.trans n).dJ (by simpa using p) k5;obtain⟨E,f⟩:∃E,E=(if k=0 then 7 else k):=⟨_,rfl⟩;rw[<-f]at L;have N:mA d ⟨nm,cols,key,only⟩ true=E:=by unfold mA;rw[f,<-lK];by_cases h0:k=0<;>simp[h0]
  cbv;obtain⟨m1,m2,x3,m3,s,x4,m4,k4,o,g,go,r,g3,g4,g5,g6,g7⟩:=L.out;generalize b:A .aI .neq E 0=u;rw[aC A]at b;rw[ai A];refine mQw g ?_;cbv;rw[aC A,b];cases u with
  |true=>cbv;rw[ai A];refine mQw g ?_;cbv;refine(tL (q.mono S)).mono (λv R hR=>?_);obtain⟨a,hd⟩:=hR;have X:=hd;obtain⟨D,B,I,F,C,K,G,n3,M,H,n4,O,rfl⟩:=hd.form;cbv;refine mQw (a _ _ g) ?_;cbv;refine⟨⟨_,rfl,rfl⟩,?_⟩;cbv;refine mQw (a _ _ g) ?_;cbv;refine⟨⟨_,rfl,rfl⟩,?_⟩;cbv;exact m _ _ (S.trans a) (mQL b) N X
  |false=>exact absurd (mQO b) (by rw[f];by_cases h0:k=0<;>simp[h0])
 |false=>
  generalize eg:A .aI .geq (A .nat B) 8=ug;generalize ew:A .aI .gtr (A .nat C) 0=uw;have hg:ug=decide (d.az.length>=8):=by rw[<-eg,cf A,hA.nat,q1.len,decide_eq_decide];simp only[mQV];omega
  have hw:uw=decide (d.aq.length>0):=by
   rw[<-ew,bO A,hA.nat,q2.len,decide_eq_decide];simp only[mQV];have:ws.length=d.aq.length:=by rw[<-qw,mQN]
   omega
  cbv;rw[eg];cases ug with
  |true=>
   cbv;refine(Nh (Z.mono n) wF tZ).mono (λv P hR=>?_);obtain⟨rfl,k5,L⟩:=hR;have S:Le h P:=(Q.trans n).dJ (by simpa using p) k5;obtain⟨E,f⟩:∃E,E=(if k=0 then 4 else k):=⟨_,rfl⟩;rw[<-f]at L;have N:mA d ⟨nm,cols,key,only⟩ false=E:=by unfold mA;rw[f,<-lK,<-hg];by_cases h0:k=0<;>simp[h0]
   cbv;obtain⟨m1,m2,x3,m3,s,x4,m4,k4,o,g,go,r,g3,g4,g5,g6,g7⟩:=L.out;generalize b:A .aI .neq E 0=u;rw[aC A]at b;rw[ai A];refine mQw g ?_;cbv;rw[aC A,b];cases u with
   |true=>cbv;rw[ai A];refine mQw g ?_;cbv;refine(tL (q.mono S)).mono (λv R hR=>?_);obtain⟨a,hd⟩:=hR;have X:=hd;obtain⟨D,B,I,F,C,K,G,n3,M,H,n4,O,rfl⟩:=hd.form;cbv;refine mQw (a _ _ g) ?_;cbv;refine⟨⟨_,rfl,rfl⟩,?_⟩;cbv;refine mQw (a _ _ g) ?_;cbv;refine⟨⟨_,rfl,rfl⟩,?_⟩;cbv;exact m _ _ (S.trans a) (mQL b) N X
   |false=>exact absurd (mQO b) (by rw[f];by_cases h0:k=0<;>simp[h0])
  |false=>
   cbv;rw[ew];cases uw with
   |true=>
    cbv;refine(Nh (Z.mono n) wF tZ).mono (λv P hR=>?_);obtain⟨rfl,k5,L⟩:=hR;have S:Le h P:=(Q.trans n).dJ (by simpa using p) k5;obtain⟨E,f⟩:∃E,E=(if k=0 then 18 else k):=⟨_,rfl⟩;rw[<-f]at L;have N:mA d ⟨nm,cols,key,only⟩ false=E:=by unfold mA;rw[f,<-lK,<-hg,<-hw];by_cases h0:k=0<;>simp[h0]
    cbv;obtain⟨m1,m2,x3,m3,s,x4,m4,k4,o,g,go,r,g3,g4,g5,g6,g7⟩:=L.out;generalize b:A .aI .neq E 0=u;rw[aC A]at b;rw[ai A];refine mQw g ?_;cbv;rw[aC A,b];cases u with
    |true=>cbv;rw[ai A];refine mQw g ?_;cbv;refine(tL (q.mono S)).mono (λv R hR=>?_);obtain⟨a,hd⟩:=hR;have X:=hd;obtain⟨D,B,I,F,C,K,G,n3,M,H,n4,O,rfl⟩:=hd.form;cbv;refine mQw (a _ _ g) ?_;cbv;refine⟨⟨_,rfl,rfl⟩,?_⟩;cbv;refine mQw (a _ _ g) ?_;cbv;refine⟨⟨_,rfl,rfl⟩,?_⟩;cbv;exact m _ _ (S.trans a) (mQL b) N X
    |false=>exact absurd (mQO b) (by rw[f];by_cases h0:k=0<;>simp[h0])
   |false=>
    have L:=Z.mono n;have S:Le h h4:=Q.trans n;obtain⟨E,f⟩:∃E,E=k:=⟨_,rfl⟩;rw[<-f]at L;have N:mA d ⟨nm,cols,key,only⟩ false=E:=by unfold mA;rw[f,<-lK,<-hg,<-hw];by_cases h0:k=0<;>simp[h0]
    cbv;obtain⟨m1,m2,x3,m3,s,x4,m4,k4,o,g,go,r,g3,g4,g5,g6,g7⟩:=L.out;generalize b:A .aI .neq E 0=u;rw[aC A]at b;rw[ai A];refine mQw g ?_;cbv;rw[aC A,b];cases u with
    |true=>cbv;rw[ai A];refine mQw g ?_;cbv;refine(tL (q.mono S)).mono (λv R hR=>?_);obtain⟨a,hd⟩:=hR;have X:=hd;obtain⟨D,B,I,F,C,K,G,n3,M,H,n4,O,rfl⟩:=hd.form;cbv;refine mQw (a _ _ g) ?_;cbv;refine⟨⟨_,rfl,rfl⟩,?_⟩;cbv;refine mQw (a _ _ g) ?_;cbv;refine⟨⟨_,rfl,rfl⟩,?_⟩;cbv;exact m _ _ (S.trans a) (mQL b) N X
    |false=>
     have ar:E=0:=by have:=mQO b;omega
     cbv;rw[ai A];rw[ai A];refine mQw g ?_;cbv;have sT:ef.R h4 [.string nm,.slice sb sn sc,.int .i64 key,.bool only,.slice none 0 0] ⟨⟨nm,cols,key,only⟩,[]⟩:=⟨_,_,_,_,_,_,rfl,qs.mono (S.t _),Sl.nil⟩;refine(cJz sT).mono (λv R hR=>?_);obtain⟨a,d0,d1,d2,d3,d4,rfl,rT⟩:=hR;obtain⟨w1,w2,w3,w4,w5,w6,he,ak,aj⟩:=rT;cases he;have Y:=a _ _ g;cbv;refine mQw Y ?_;cbv;refine⟨⟨_,rfl,rfl⟩,?_⟩;cbv;intro nb h7 gY e7;have w:Le R h7:=by rw[e7];exact Le.set gY
     have gx:=(congrFun e7 nb).trans ae;have sx:Sl 51 ef h7 (.slice (some ⟨nb,0,none⟩) 1 1) [(⟨⟨nm,cols,key,only⟩,[]⟩:cW)]:=by
      refine Sl.fresh (xs:=[(⟨⟨nm,cols,key,only⟩,[]⟩:cW)]) gx ⟨by simp[ef],λj y hj=>?_⟩ (by simp) (by simp);have Cy:j=0:=by have:=(mQB.1 hj).1;simp at this;exact this
      subst Cy;simp at hj;subst hj;exact⟨_,_,_,_,_,_,rfl,ak.mono (w.t _),aj.mono (w.t _)⟩
     have T:=w _ _ Y;have em:m1=ct:=by rw[r,ab]
     subst em;have ke:i<=m1:=by have:=(Nt (d.az.map λx=>eC x.S.name nm) 0 (d.az.map λx=>eC x.S.name nm).length (mQC _)).1;rw[hi,r];simpa using this
     cbv;refine mQw T ?_;cbv;refine⟨⟨_,rfl,rfl⟩,?_⟩;cbv;refine(aJK ((g3.sl r).mono ((a.trans w).t _)) sx hz ke (by omega)).mono (λv h8 hR=>?_);obtain⟨l8,al,au,m5,rfl,ay,ag,ot⟩:=hR;have V:=l8 _ _ T;cbv;rw[ai A];rw[ai A];refine ja V (by simp) (λh9 e9=>?_);have an:=(congrFun e9 c).trans ae;have k9:Kp [c] h8 h9:=by rw[e9];exact Kp.set (by simp)
     have t9:∀tys,130∉tys->bR tys h8 h9:=λtys hn=>by rw[e9];exact bR.set V hn
     have af:Le h h9:=(((S.trans a).trans w).trans l8).dJ (by simpa using p) k9;have JB:ik h9 (.agg #[.slice (some ⟨al,0,none⟩) m5 au,.slice (some ⟨wb,0,none⟩) m2 cw,.slice x3 m3 s,.slice x4 m4 k4]) (tm d (d.az.take i++[⟨⟨nm,cols,key,only⟩,[]⟩]++d.az.drop i)):=by
      have J:=(a.trans w).trans l8;refine⟨_,_,_,_,_,_,_,_,_,_,_,_,_,rfl,(ot.sl ?_).mono (t9 _ (by decide)),((g5.sl g4).mono (J.t _)).mono (t9 _ (by decide)),(g6.mono (J.t _)).mono (t9 _ (by decide)),(g7.mono (J.t _)).mono (t9 _ (by decide)),?_⟩
      .rw[ag];simp;omega
      rw[hW];simp[tm,Function.comp_def]
     cbv;rw[ai A];refine mQw an ?_;cbv;refine(tL JB).mono (λv fL hR=>?_);obtain⟨fU,hd⟩:=hR;have qF:nZ d ⟨nm,cols,key,only⟩ i false=(tm d (d.az.take i++[⟨⟨nm,cols,key,only⟩,[]⟩]++d.az.drop i),0):=by unfold nZ;rw[if_pos (N.trans ar)]
     have X:=hd;generalize tm d (d.az.take i++[⟨⟨nm,cols,key,only⟩,[]⟩]++d.az.drop i)=d' at *;obtain⟨D,B,I,F,C,K,G,n3,M,H,n4,O,rfl⟩:=hd.form;cbv;exact⟨_,0,z,i,false,rfl,af.trans fU,by rw[qF];exact X,by rw[qF],hz,hb⟩
end Go.S
