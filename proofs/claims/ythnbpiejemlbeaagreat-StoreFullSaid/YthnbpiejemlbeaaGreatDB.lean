import Derived.Test.YthnbpiejemlbeaaGreatDA
set_option linter.all false
set_option maxRecDepth 100000
namespace Go.S
open Go.Sx Go.Proofs
variable {only:Bool}{nm s:ByteArray}{d:DB}{e key z:Int}{xs:List (ep×Bool)}{H:List bG}{cols:List iK}{c cap i n:Nat}{b vb:Option Addr}{h h':ab}
def gR(s:ByteArray)(i:Nat):Int:=((s.data.getD i 0).toNat:Int)
def BT(z:Int):Bool:= !((decide (z<97)||decide (z>122))&&(decide (z<48)||decide (z>57))&&(z !=95))
def zO(s:ByteArray):Bool:= !(decide ((s.size:Int)<1)||decide ((s.size:Int)>12)||decide (gR s 0<97)||decide (gR s 0>122))
def wK(s:ByteArray):Bool:=(List.range s.size).all λi=>BT (gR s i)
def qF(s:ByteArray):Bool:=ir.any λw=>decide (w=s)
theorem qE:qF s=true↔s∈ir:=by
 unfold qF;rw[List.any_eq_true];constructor
 .rintro⟨w,a,b⟩;exact of_decide_eq_true b ▸ a
 intro h;exact⟨s,h,by simp⟩
def fA(s:ByteArray):Bool:=zO s&&wK s&& !qF s
structure dJZ(h:ab)(sp:Nat):Prop where
 out:(h sp=some (.cells #[.int .u32 0,.int .i32 0,.int .u32 0,.map none] 455 (0,0)))\/
  ∃m,h sp=some (.cells #[.int .u32 1,.int .i32 0,.int .u32 0,.map (some m)] 455 (0,0))/\Mp h m .string (yf ir)/\m≠sp
theorem aXh(w:World):(zeroValue 4).run Tryz.prog w=.ok (.bool false) w:=by
 have h:((Tryz.prog.info? 4).bind (·.zero))=some (.bool false):=by kernel_rfl
 cases a:Tryz.prog.info? 4 with
 |none=>rw[a]at h;cases h
 |some i=>rw[a]at h;simp at h;simp[zeroValue,typeInfo,a,h]
theorem Hy{k:Value->ab->Prop}{m:Nat}(c:Mp h m .string (yf ir))(b:∀t,t=qF s->k (.bool t) h):
 ef (λ_=>Tryz.prog) (λ_=>Instr.lookup 453 (.map (some m)) (.string s) false) h k:=by
 by_cases a:s∈ir
 .exact wz aJh u9 c (key:=.string s) (v:=.bool true) True.intro (List.mem_map.2 ⟨s,a,rfl⟩) (b true (qE.2 a).symm)
 refine sD aJh u9 aXh c (key:=.string s) True.intro ?_ (b false ?_)
 .intro p d e;obtain⟨w,f,rfl⟩:=List.mem_map.1 d;cases e;exact a f
 cases i:qF s with
 |false=>rfl
 |true=>exact absurd (qE.1 i) a
set_option maxHeartbeats 2000000 in
theorem Th{p:Nat}(q:dJZ h p):
 Ct 304 [.pointer (some ⟨p,0,none⟩),.string s] h (λv h'=>∃t,v=.bool t/\t=fA s/\Kp [p] h h'/\dJZ h' p):=by
 refine an dQN Tryz.func304 λA o=>?_;have H:A .jL s=(s.size:Int):=by rw[o.jL]
 have yW:aK (A .jL s) s.size:=⟨H⟩;have Y:∀z i,aK z i->A .byte s z=gR s i:=λz i a=>by
  rw[o.byte];simp only[gR];rw[a.eq];rfl
 generalize e1:A .ay .lss (A .jL s) 1=t1;generalize k:A .ay .gtr (A .jL s) 12=t2;generalize d:A .ay .lss (A .byte s 0) 97=t3;generalize c:A .ay .gtr (A .byte s 0) 122=t4;have pJ:t2=false->s.size<=12:=λe=>by
  rw[e,o.ay,H]at k;have:=of_decide_eq_false k;omega
 have x:zO s= !(t1||t2||t3||t4):=by rw[<-e1,<-k,<-d,<-c,Y 0 0 ⟨rfl⟩,H,o.ay];rfl
 have J:t1=false->(0:Int)<=0/\0<(s.size:Int):=λe=>by
  rw[e,o.ay,H]at e1;have:=of_decide_eq_false e1;omega
 have B:∀(t:Bool) (b:Bool),t=false->zO s=false->t=fA s:=λt b r D=>by rw[r,fA,D];rfl
 have KC:∀(t:Bool),t=true->t=t:=λ_ _=>rfl;cbv;rw[e1];cases t1 with
 |true=>cbv;exact⟨false,rfl,B _ true rfl x,Kp.refl _ _,q⟩
 |false=>
  have E:=J rfl;cbv;rw[k];cases t2 with
  |true=>cbv;exact⟨false,rfl,B _ true rfl x,Kp.refl _ _,q⟩
  |false=>
   cbv;refine⟨E,?_⟩;cbv;rw[d];cases t3 with
   |true=>cbv;exact⟨false,rfl,B _ true rfl x,Kp.refl _ _,q⟩
   |false=>
    cbv;refine⟨E,?_⟩;cbv;rw[c];cases t4 with
    |true=>cbv;exact⟨false,rfl,B _ true rfl x,Kp.refl _ _,q⟩
    |false=>
     cbv;have Z:zO s=true:=x;have pJ:=pJ rfl;clear x e1 k d c J B KC;refine aG.go (G:=Int) (λz=>[(27,.v (.int .i64 z))]) (λ_=>[]) (λn z h'=>∃i:Nat,aK z i/\n=s.size-i/\i<=s.size/\h'=h/\∀j,j<i->BT (gR s j)=true) s.size 0 (by constructor<;>cbv) ⟨0,⟨rfl⟩,rfl,by omega,rfl,λj I=>(by omega)⟩ ?_
     intro n z h' hI;cbv;obtain⟨i,a,ag,hi,rfl,N⟩:=hI;refine aJ (λu=>?_) (λu=>?_)
     .rw[a.vh (A:=A) yW]at u;have M:=of_decide_eq_true u;clear u;cbv;refine⟨a.ix M,?_⟩;cbv;rw[Y z i a];generalize T:gR s i=w;generalize e1:A .ay .lss w 97=t1;generalize k:A .ay .gtr w 122=t2;generalize d:A .ay .lss w 48=t3;generalize c:A .ay .gtr w 57=t4;generalize y:A .ay .neq w 95=t5;have F:BT w= !((t1||t2)&&(t3||t4)&&t5):=by rw[<-e1,<-k,<-d,<-c,<-y,o.ay];rfl
      have f:BT w=false->fA s=false:=λe=>by
       have:wK s=false:=by unfold wK;rw[List.all_eq_false];exact⟨i,by simp[M],by rw[T,e];simp⟩
       rw[fA,this];simp
      have X:BT w=true->∀j,j<i+1->BT (gR s j)=true:=λe j I=>by
       rcases Nat.lt_or_ge j i with h|h
       .exact N j h
       have:j=i:=by omega
       rw[this,T,e]
      cbv;cases t1 with
      |true=>
       cbv;rw[d];cases t3 with
       |true=>
        cbv;rw[y];cases t5 with
        |true=>cbv;exact⟨false,rfl,(f (by rw[F];rfl)).symm,Kp.refl _ _,q⟩
        |false=>cbv;exact⟨s.size-(i+1),_,by omega,by constructor<;>cbv,i+1,a.succ (A:=A),rfl,by omega,rfl,X (by rw[F];rfl)⟩
       |false=>
        cbv;rw[c];cases t4 with
        |true=>
         cbv;rw[y];cases t5 with
         |true=>cbv;exact⟨false,rfl,(f (by rw[F];rfl)).symm,Kp.refl _ _,q⟩
         |false=>cbv;exact⟨s.size-(i+1),_,by omega,by constructor<;>cbv,i+1,a.succ (A:=A),rfl,by omega,rfl,X (by rw[F];rfl)⟩
        |false=>cbv;exact⟨s.size-(i+1),_,by omega,by constructor<;>cbv,i+1,a.succ (A:=A),rfl,by omega,rfl,X (by rw[F];rfl)⟩
      |false=>
       cbv;rw[k];cases t2 with
       |true=>
        cbv;rw[d];cases t3 with
        |true=>
         cbv;rw[y];cases t5 with
         |true=>cbv;exact⟨false,rfl,(f (by rw[F];rfl)).symm,Kp.refl _ _,q⟩
         |false=>cbv;exact⟨s.size-(i+1),_,by omega,by constructor<;>cbv,i+1,a.succ (A:=A),rfl,by omega,rfl,X (by rw[F];rfl)⟩
        |false=>
         cbv;rw[c];cases t4 with
         |true=>
          cbv;rw[y];cases t5 with
          |true=>cbv;exact⟨false,rfl,(f (by rw[F];rfl)).symm,Kp.refl _ _,q⟩
          |false=>cbv;exact⟨s.size-(i+1),_,by omega,by constructor<;>cbv,i+1,a.succ (A:=A),rfl,by omega,rfl,X (by rw[F];rfl)⟩
         |false=>cbv;exact⟨s.size-(i+1),_,by omega,by constructor<;>cbv,i+1,a.succ (A:=A),rfl,by omega,rfl,X (by rw[F];rfl)⟩
       |false=>cbv;exact⟨s.size-(i+1),_,by omega,by constructor<;>cbv,i+1,a.succ (A:=A),rfl,by omega,rfl,X (by rw[F];rfl)⟩
     rw[a.vh (A:=A) yW]at u;have jO:=of_decide_eq_false u;cbv;have UL:wK s=true:=by unfold wK;rw[List.all_eq_true];intro j I;rw[List.mem_range]at I;exact N j (by omega)
     rw[al A];have fin:∀t,t=qF s->(A .not t)=fA s:=λt r=>by
      rw[fA,Z,UL,r,o.not];simp
     rcases q.out with g| ⟨m,g,mp,l⟩
     .refine(Vk (a1:=⟨p,0,none⟩) (Q:=λD=>Kp [p] h' D/\∃m,h' m=none/\D p=some (.cells #[.int .u32 0,.int .i32 1,.int .u32 0,.map (some m)] 455 (0,0))/\Mp D m .string (yf ir)) (bY g rfl) (bY g rfl) (λE hu=>?_)).mono (λv S hR=>?_)
      .have e1:=hu.exp g;have O:=(congrFun e1 p).trans ae;refine(XU O).mono (λv R hR=>?_);obtain⟨rfl,L,m,l,C,K⟩:=hR;have k1:Kp [p] h' E:=by rw[e1];exact Kp.set (by simp)
       refine⟨rfl,bY C rfl,bY C rfl,k1.trans L,m,?_,C,K⟩;have bF:m≠p:=λe=>by rw[e,O]at l;cases l
       rw[e1,bN bF]at l;exact l
      obtain⟨rfl,R,h3,⟨L,m,l,C,K⟩,u3,u4⟩:=hR;have d:=u3.exp C;have g3:=(congrFun d p).trans ae;have c:=u4.exp g3;have P:=(congrFun c p).trans ae;rw[d,dD]at c;have V:Kp [p] R S:=by rw[c];exact Kp.set (by simp)
      have U:m≠p:=λe=>by rw[e,g]at l;cases l
      have W:=K.kp V (by simpa using U);cbv;rw[al A];refine ak P ?_;cbv;refine Hy W (λt r=>?_);cbv;exact⟨_,rfl,fin t r,L.trans V,⟨.inr ⟨m,P,W,U⟩⟩⟩
     refine(PF (a1:=⟨p,0,none⟩) (bY g rfl)).mono (λv S hR=>?_);obtain⟨rfl,rfl⟩:=hR;cbv;rw[al A];refine ak g ?_;cbv;refine Hy mp (λt r=>?_);cbv;exact⟨_,rfl,fin t r,Kp.refl _ _,q⟩
theorem ZI{x:iK}{b:Nat}{n:ByteArray}(g:h b=some (.cells #[.string n] 9 (0,0))){a:Bool}{s1:ByteArray}:
 Ct 356 [.agg #[.string s1,.int .i64 z,.bool a],.pointer (some ⟨b,0,none⟩)] h (λv h'=>Le h h'/\∃t,v=.bool t/\t=decide (s1=n)):=by
 refine an cKW Tryz.func356 λA c=>?_;cbv;refine ak g ?_;cbv;exact⟨Le.refl _,_,rfl,dF A _ _⟩
theorem aKK{xs:List iK}{len:Nat}(q:Sl 202 bh h (.slice b len cap) xs){s:Nat}{a:ByteArray}(g:h s=some (.cells #[.string a] 9 (0,0))):
 Ct 355 [.slice b len cap,.func (.func 356) #[] #[.pointer (some ⟨s,0,none⟩)]] h (λv h'=>Le h h'/\∃z:Int,v=.int .i64 z/\qV xs (λx:iK=>decide (x.name=a)) z):=by
 have r:=q.len;obtain⟨H,N⟩:=q.bound;generalize u:(λx:iK=>decide (x.name=a))=p;refine an cKX Tryz.func355 λA B=>?_;cbv;refine aG.go (G:=Int) (λz=>[(8,.v (.int .i64 z))]) (λ_=>[]) (λn z h'=>∃i:Nat,aK z i/\n=len-i/\i<=len/\Le h h'/\∀j,j<i->∀y,xs[j]? =some y->p y=false) len 0 (by constructor<;>cbv) ⟨0,⟨rfl⟩,by omega,by omega,Le.refl _,λj e=>(by omega)⟩ ?_
 intro n z h' I;cbv;obtain⟨i,c,D,C,l,k⟩:=I;refine aJ (λd=>?_) (λd=>?_)
 .have F:=c.lt d;clear d;cbv;obtain⟨x,hx⟩:=bn xs i;refine⟨⟨q.aQ,c.ix F⟩,?_⟩;cbv;refine(q.mono (l.t _)).load hx c.eq (λcs o=>?_);have o:cs=[.string x.name,.int .i64 x.kind,.bool x.null]:=o;subst o;cbv;refine(ZI (x:=x) (l _ _ g)).mono (λv w hR=>?_);obtain⟨Q,t,rfl,f⟩:=hR;have f:t=p x:=by rw[<-u];exact f
  cbv;cases t with
  |true=>cbv;exact⟨l.trans Q,z,rfl,⟨.inr ⟨i,x,c,hx,f.symm,k⟩⟩⟩
  |false=>
   cbv;refine⟨len-(i+1),_,by omega,by constructor<;>cbv,i+1,c.succ (A:=A),rfl,by omega,l.trans Q,?_⟩
   intro j e y m;rcases Nat.lt_or_ge j i with h|h
   .exact k j h y m
   have:j=i:=by omega
   subst this;rw[hx]at m;cases m;exact f.symm
 have O:=c.ge d;cbv;refine⟨l,-1,rfl,⟨.inl ⟨rfl,λx hx=>?_⟩⟩⟩;obtain⟨j,e⟩:=List.getElem?_of_mem hx;have:=(List.getElem?_eq_some_iff.1 e).1;exact k j (by omega) x e
theorem bZc(q:Sl 202 bh h (.slice b n c) cols){k:Int}:
 Ct 305 [.agg #[.string nm,.slice b n c,.int .i64 k,.bool only],.string s] h (λv h'=>Le h h'/\∃z t a,v=.tuple #[.int .i64 z,.bool t]/\qV cols (λx=>decide (x.name=s)) a/\z=max a 0/\t=decide (a>=0)):=by
 refine an dQM Tryz.func305 λA f=>?_;cbv;intro m e d e1;have l:Le h e:=by rw[e1];exact Le.set d
 have g:=(congrFun e1 m).trans ae;cbv;refine(aKK (q.mono (l.t _)) g).mono (λv o hR=>?_);obtain⟨j,z,rfl,i⟩:=hR;cbv;exact⟨l.trans j,_,_,z,rfl,i,by rw[f.imax],bX A _ _⟩
theorem Kp.cXv{e:Nat}{c:Array Value}{fr:Nat×Nat}{tys:List Nat}(x:Kp [n] h h')(g:h n=some (.cells c e fr))(f:e∉tys):bV tys h h':=λb d i J m a=>by
 by_cases Q:b=n
 .rw[Q,g]at a;cases a;exact absurd m f
 exact x b _ a (by simpa using Q)
def fC(cols:List iK)(i:Nat)(c:iK):Int:=
 if(!fA c.name||(cols.take i).any λx=>decide (x.name=c.name))=true then 12 else if(decide (c.kind<1)||decide (c.kind>3))=true then 3 else 0
def jy(cols:List iK):Int:=((cols.zipIdx.map λ(c,i)=>fC cols i c).find? (λz=>z !=0)).getD 0
def dA(s:rV):Int:=
 if(!fA s.name)=true then 12
 else if(decide ((s.cols.length:Int)<1)||decide ((s.cols.length:Int)>6))=true then 4
 else if jy s.cols≠0 then jy s.cols
 else if(decide (s.key<0)||decide (s.key>=(s.cols.length:Int)))=true then 1
 else if((s.cols[s.key.toNat]?).map (·.null)).getD false=true then 13 else 0
theorem CN{c:iK}(h:cols[i]? =some c)(p:∀j,j<i->∀y,cols[j]? =some y->fC cols j y=0)(b:fC cols i c≠0):jy cols=fC cols i c:=by
 unfold jy;have:(cols.zipIdx.map λ(c,i)=>fC cols i c).find? (λz=>z !=0)=some (fC cols i c):=by
  rw[List.find?_eq_some_iff_getElem];have a:=(List.getElem?_eq_some_iff.1 h).1;refine⟨by simpa using b,i,by simpa using a,?_,λj d=>?_⟩
  .have:=(List.getElem?_eq_some_iff.1 h).2;simp[this]
  have o:j<cols.length:=by omega
  have:=p j d cols[j] (by simp[o]);simp[this]
 rw[this];rfl
theorem xJ(b:∀j,j<cols.length->∀y,cols[j]? =some y->fC cols j y=0):jy cols=0:=by
 unfold jy;have:(cols.zipIdx.map λ(c,i)=>fC cols i c).find? (λz=>z !=0)=none:=by rw[List.find?_eq_none];intro x hx;obtain⟨⟨c,i⟩,h,rfl⟩:=List.mem_map.1 hx;have:=List.mem_zipIdx_iff_getElem?.1 h;have a:=(List.getElem?_eq_some_iff.1 this).1;simp[b i a c this]
 rw[this];rfl
theorem TC{c:iK}(d:cols[i]? =some c)(r:qV cols (λx=>decide (x.name=c.name)) z):
 decide (max z 0<(i:Int))=(cols.take i).any λx=>decide (x.name=c.name):=by
 rcases r.out with⟨-,h⟩|⟨k,x,e,hx,p,b⟩
 .have:=h c (List.mem_of_getElem? d);simp at this
 have g:=e.eq;by_cases F:k<i
 .rw[decide_eq_true (by omega),eq_comm,List.any_eq_true];exact⟨x,List.mem_of_getElem? (i:=k) (by rw[List.getElem?_take,if_pos F];exact hx),p⟩
 have J:¬i<k:=λh=>by have:=b i h c d;simp at this
 rw[decide_eq_false (by omega),eq_comm,List.any_eq_false];intro y f;obtain⟨j,a⟩:=List.getElem?_of_mem f;rw[List.getElem?_take]at a;split at a
 .rename_i D;have:=b j (by omega) y a;simpa using this
 cases a
set_option maxHeartbeats 2000000 in
theorem Bc(q:Sl 202 bh h (.slice b n c) cols):
 Ct 210 [.agg #[.string nm,.slice b n c,.int .i64 key,.bool only]] h (λv h'=>Le h h'/\∃z,v=.int .i64 z/\z=dA ⟨nm,cols,key,only⟩):=by
 obtain⟨A,H⟩:=Ar.ex;have w:=q.len;obtain⟨jH,fN⟩:=q.bound;have hn:A .nat n=(cols.length:Int):=by rw[H.nat,w];rfl
 have yW:aK (A .nat n) n:=⟨by rw[H.nat];rfl⟩;generalize e1:A .ay .lss (A .nat n) 1=t1;generalize d:A .ay .gtr (A .nat n) 6=t2;have l:(decide ((cols.length:Int)<1)||decide ((cols.length:Int)>6))=(t1||t2):=by rw[<-e1,<-d,hn,aD A,aX A]
 refine bB dZu A Tryz.func210 ?_;cbv;intro C R D Q;have r:Le h R:=by rw[Q];exact Le.set D
 have K:=(congrFun Q C).trans ae;have s1:dJZ R C:=⟨.inl K⟩;have q1:=q.mono (r.t _);clear Q;cbv;refine(Th s1).mono (λv h2 hR=>?_);obtain⟨t,rfl,J,L,s2⟩:=hR;cbv;rw[H.not];cases t with
 |false=>cbv;refine⟨r.aE (by simpa using D) L,12,rfl,?_⟩;unfold dA;rw[<-J];rfl
 |true=>
  cbv;rw[e1];have a:(t1||t2)=true->(4:Int)=dA ⟨nm,cols,key,only⟩:=λU=>by
   unfold dA;rw[<-J,l,U];rfl
  cases t1 with
  |true=>cbv;exact⟨r.aE (by simpa using D) L,4,rfl,a rfl⟩
  |false=>
   cbv;rw[d];cases t2 with
   |true=>cbv;exact⟨r.aE (by simpa using D) L,4,rfl,a rfl⟩
   |false=>
    clear a e1 d;cbv;refine aG.go (G:=Int) (λz=>[(25,.v (.int .i64 z))]) (λ_=>[(1,[.string nm,.slice b n c,.int .i64 key,.bool only])])
     (λk z h'=>∃i:Nat,aK z i/\k=n-i/\i<=n/\Kp [C] R h'/\dJZ h' C/\∀j,j<i->∀y,cols[j]? =some y->fC cols j y=0) n 0 ⟨?_,?_,?_⟩ ⟨0,⟨rfl⟩,by omega,by omega,L,s2,λj hj=>(by omega)⟩ ?_
    .cbv
    .cbv
    .cbv
    intro k z h' hI;cbv;obtain⟨i,p,hk,hi,kp,T,P⟩:=hI;refine aJ (λI=>?_) (λI=>?_)
    .have aF:=p.lt I;clear I;cbv;obtain⟨x,hx⟩:=bn cols i;have N:=q1.mono (Kp.cXv kp K (by decide));refine⟨⟨q.aQ,p.ix aF⟩,?_⟩;cbv;refine N.load hx p.eq (λcs o=>?_);have o:cs=[.string x.name,.int .i64 x.kind,.bool x.null]:=o;subst o;generalize O:x.name=xn at *;generalize Ky:x.kind=xk at *;cbv;refine(bZc N).mono (λv h3 hR=>?_);obtain⟨M,z3,t3,z',rfl,hr,Ew,YO⟩:=hR;have s3:dJZ h3 C:=by
      rcases T.out with g| ⟨m,g,mp,U⟩
      .exact⟨.inl (M _ _ g)⟩
      exact⟨.inr ⟨m,M _ _ g,mp.kp (M.kp []) (by simp),U⟩⟩
     have gh:A .ay .lss z3 z=(cols.take i).any λy=>decide (y.name=xn):=by rw[aD A,Ew,p.eq,<-O];exact TC hx (by rw[O];exact hr)
     cbv;refine(Th s3).mono (λv h4 hR=>?_);obtain⟨t,rfl,S,k4,s4⟩:=hR;have u:=(kp.trans (M.kp _)).trans k4;have Y:Le h h4:=r.aE (by simpa using D) u;have f:∀e:Int,fC cols i x=e->e≠0->e=dA ⟨nm,cols,key,only⟩:=λe he V=>by
      have h5:=CN hx P (by rw[he];exact V);unfold dA;rw[<-J,l];simp only[h5,he];rw[if_neg (by simp),if_neg (by simp),if_pos V]
     have gX:fC cols i x=0->∀j,j<i+1->∀y,cols[j]? =some y->fC cols j y=0:=λe j hj y B=>by
      rcases Nat.lt_or_ge j i with kD|kD
      .exact P j kD y B
      have:j=i:=by omega
      subst this;rw[hx]at B;cases B;exact e
     generalize e1:A .ay .lss z3 z=E at *;generalize d:A .ay .lss xk 1=F;generalize W:A .ay .gtr xk 3=u3;have X:fC cols i x=if(!t||E)=true then 12 else if(F||u3)=true then 3 else 0:=by unfold fC;rw[O,Ky,<-S,<-gh,<-d,<-W,aD A,aX A]
     cbv;rw[H.not];cases t with
     |false=>cbv;exact⟨Y,12,rfl,f 12 X (by decide)⟩
     |true=>
      cbv;try rw[e1]
      cases E with
      |true=>cbv;exact⟨Y,12,rfl,f 12 X (by decide)⟩
      |false=>
       cbv;rw[d];cases F with
       |true=>cbv;exact⟨Y,3,rfl,f 3 X (by decide)⟩
       |false=>
        cbv;rw[W];cases u3 with
        |true=>cbv;exact⟨Y,3,rfl,f 3 X (by decide)⟩
        |false=>
         cbv;refine⟨n-(i+1),_,by omega,by constructor<;>cbv,i+1,p.succ (A:=A),rfl,by omega,u,s4,gX X⟩
    have jO:=p.ge I;have h0:jy cols=0:=xJ λj hj y B=>P j (by omega) y B;have Y:Le h h':=r.aE (by simpa using D) kp;have N:=q1.mono (Kp.cXv kp K (by decide));generalize e1:A .ay .lss key 0=E;generalize d:A .ay .geq key (A .nat n)=F;have s:dA ⟨nm,cols,key,only⟩=if(E||F)=true then 1 else if((cols[key.toNat]?).map (·.null)).getD false=true then 13 else 0:=by unfold dA;rw[<-J,l];simp only[h0];rw[if_neg (by simp),if_neg (by simp),if_neg (by simp),<-e1,<-d,aD A,bX A,hn]
    cbv;rw[e1];cases E with
    |true=>cbv;exact⟨Y,1,rfl,s.symm⟩
    |false=>
     cbv;rw[d];cases F with
     |true=>cbv;exact⟨Y,1,rfl,s.symm⟩
     |false=>
      obtain⟨Z,oY⟩:=Kt A e1 d;obtain⟨x,hx⟩:=bn cols key.toNat;rw[hx]at s;cbv;refine⟨⟨q.aQ,Z.ix oY⟩,?_⟩;cbv;refine N.bT hx Z.eq (by decide) (λcs o=>?_);have o:cs=[.string x.name,.int .i64 x.kind,.bool x.null]:=o;subst o;have s:dA ⟨nm,cols,key,only⟩=if x.null=true then 13 else 0:=s
      generalize x.null=nl at *;cases nl with
      |true=>cbv;exact⟨Y,13,rfl,s.symm⟩
      |false=>cbv;exact⟨Y,0,rfl,s.symm⟩
theorem Vt(a b:Int)(h:ab)(c d:Value):Ct 97 [.agg #[.int .i64 a,c,d],.int .i64 b] h (λv h'=>Le h h'/\∃z,v=.int .i64 z/\z=IntKind.i64.wrap (a-b)):=by refine an gJx Tryz.func97 λA e=>?_;cbv;exact⟨Le.refl _,_,rfl,by rw[e.aC];rfl⟩
theorem cKA{len:Nat}(q:Sl 79 bE h (.slice b len cap) xs)(o:Int):
 Ct 96 [.slice b len cap,.int .i64 o,.func (.func 97) #[] #[]] h (λv h'=>Le h h'/\∃(z:Int) (t:Bool),v=.tuple #[.int .i64 z,.bool t]/\LR (xs.map (λx:ep×Bool=>IntKind.i64.wrap (x.1.s-o))) z t):=by
 have m:=q.len;obtain⟨W,U⟩:=q.bound;have p:(xs.map (λx:ep×Bool=>IntKind.i64.wrap (x.1.s-o))).length=len:=by simp[m]
 generalize hl:xs.map (λx:ep×Bool=>IntKind.i64.wrap (x.1.s-o))=l at p;have C:∀(i:Nat) x,xs[i]? =some x->l[i]? =some ((λx:ep×Bool=>IntKind.i64.wrap (x.1.s-o)) x):=λi x hx=>by rw[<-hl];simp[hx]
 refine an gJy Tryz.func96 λA c=>?_;cbv;refine aG.go (G:=Int×Int) (λg=>[(9,.v (.int .i64 g.1)),(10,.v (.int .i64 g.2))]) (λ_=>[])
  (λn g h'=>∃i j:Nat,aK g.1 i/\aK g.2 j/\n=j-i/\i<=j/\j<=len/\Le h h'/\oW l 0 len=oW l i j) len (0,A .nat len) ⟨?_,?_,?_⟩ ⟨0,len,⟨rfl⟩,⟨by rw[c.nat];rfl⟩,by omega,by omega,by omega,Le.refl _,rfl⟩ ?_
 .cbv
 .cbv
 .cbv
 intro n g h' K;cbv;obtain⟨i,j,a,r,V,H,T,e,J⟩:=K;refine aJ (λf=>?_) (λf=>?_)
 .rw[a.vh (A:=A) r,decide_eq_true_eq]at f;cbv;refine⟨by decide,?_⟩;cbv;have s:=a.fQr (A:=A) r (by omega) (by omega);obtain⟨x,hx⟩:=ax (xs:=xs) (i:=(i+j) / 2) (by omega);refine⟨⟨q.aQ,s.ix (by omega)⟩,?_⟩;cbv;refine(q.mono (e.t _)).load hx s.eq (λcs u=>?_);obtain⟨E,N,L,F,P,M,rfl,R,S,-⟩:=u;cbv;refine(Vt x.1.s o _ _ _).mono (λv I hR=>?_);obtain⟨Q,z,rfl,B⟩:=hR;cbv;have y:l.getD ((i+j) / 2) 0=z:=by rw[List.getD_eq_getElem?_getD,C _ _ hx,B];rfl
  have d:=J;rw[oW.eq_1 l i j,if_pos f,y]at d;refine aJ (λk=>?_) (λk=>?_)
  .rw[c.ay]at k;have D:z<0:=of_decide_eq_true k;rw[if_pos D]at d;clear k D;cbv;refine⟨j-((i+j) / 2+1),(_,g.2),by omega,by constructor<;>cbv,(i+j) / 2+1,j,s.succ (A:=A),r,rfl,by omega,T,e.trans Q,d⟩
  rw[c.ay]at k;have D:¬z<0:=of_decide_eq_false k;rw[if_neg D]at d;clear k D;cbv;refine⟨(i+j) / 2-i,(g.1,A .conv .i64 (A .aC .shr .u64 (A .conv .u64 (A .aC .add .i64 g.1 g.2)) 1)),by omega,by constructor<;>cbv,i,(i+j) / 2,a,s,rfl,by omega,by omega,e.trans Q,d⟩
 rw[a.vh (A:=A) r,decide_eq_false_iff_not]at f;cbv;have d:=J;rw[oW.eq_1 l i j,if_neg f]at d;have O:=a.vh (A:=A) (w:=A .nat len) (j:=len) ⟨by rw[c.nat];rfl⟩;refine aJ (λk=>?_) (λk=>?_)
 .rw[k];rw[O,decide_eq_true_eq]at k;cbv;obtain⟨x,hx⟩:=bn xs i;refine⟨⟨q.aQ,a.ix (by omega)⟩,?_⟩;cbv;refine(q.mono (e.t _)).load hx a.eq (λcs u=>?_);obtain⟨E,N,L,F,P,M,rfl,R,S,-⟩:=u;cbv;refine(Vt x.1.s o _ _ _).mono (λv I hR=>?_);obtain⟨Q,z,rfl,B⟩:=hR;cbv;refine⟨e.trans Q,_,_,rfl,⟨i,a,?_,?_⟩⟩
  .rw[p];exact d.symm
  rw[c.ay];have y:l.getD i 0=z:=by rw[List.getD_eq_getElem?_getD,C _ _ hx,B];rfl
  rw[y,p];simp[ay,k];rfl
 rw[k];rw[O,decide_eq_false_iff_not]at k;cbv;refine⟨e,_,_,rfl,⟨i,a,?_,?_⟩⟩
 .rw[p];exact d.symm
 rw[p];simp[k]
theorem uR{k wb d w:Nat}{T:List bJ}{W:List (ep×Bool)}{b:List bG}(q:iX h c k wb d w T W H b e)(a:Int):
 Ct 39 [.pointer (some ⟨c,0,none⟩),.int .i64 a] h (λv h'=>Le h h'/\∃z t,v=.tuple #[.int .i64 z,.bool t]/\LR (W.map (λx=>IntKind.i64.wrap (x.1.s-a))) z t):=by
 obtain⟨F,G,m,I,p,n,J,r,o,g,s,u,y,f,i,B,C⟩:=q.out;refine an gKi Tryz.func39 λA E=>?_;cbv;rw[al A];rw[al A];refine ak g ?_;cbv;refine(cKA (i.sl f) a).mono (λv D hR=>?_);obtain⟨l,z,t,rfl,j⟩:=hR;cbv;exact⟨l,z,t,rfl,j⟩
theorem oB{j wb b w:Nat}{T:List bJ}{W:List (ep×Bool)}{a:List bG}(q:iX h c j wb b w T W H a e)(n:ByteArray):
 Ct 116 [.pointer (some ⟨c,0,none⟩),.string n] h (λv h'=>Le h h'/\∃z t,v=.tuple #[.int .i64 z,.bool t]/\LR (T.map (λx=>cT x.S.name n)) z t):=by
 obtain⟨F,G,k,I,p,m,J,r,o,g,s,d,f,u,y,B,C⟩:=q.out;refine an dJP Tryz.func116 λA E=>?_;cbv;rw[al A];rw[al A];refine ak g ?_;cbv;refine(fKF (f.sl d) n).mono (λv D hR=>?_);obtain⟨l,z,t,rfl,i⟩:=hR;cbv;exact⟨l,z,t,rfl,i⟩
theorem Io{xs:List bJ}{x:bJ}{k:Nat}(q:Sl 61 bo h (.slice b n n) xs)(u:Sl 61 bo h (.slice vb 1 k) [x])(a:aK z i)(r:i<=n)(X:n<=2^38):
 Ct 211 [.slice b n n,.int .i64 z,.slice vb 1 k] h (λv h'=>Le h h'/\∃e c m,v=.slice (some ⟨e,0,none⟩) m c/\h e=none/\m=n+1/\cA 61 bo h' e c (xs.take i++[x]++xs.drop i)):=by
 obtain⟨A,d⟩:=Ar.ex;have l:=q.len;have S:aK (A .nat n) n:=⟨by rw[d.nat];rfl⟩;have E:aK (A .nat 1) 1:=⟨by rw[d.nat];rfl⟩;have e1:A .ay .eql (A .nat 1) 0=false:=by rw[aq A,d.nat];rfl
 have D:A .ay .eql z (A .nat n)=decide (i=n):=by rw[aq A,d.nat];have:=a.eq;rw[decide_eq_decide];simp only[Int.ofNat_eq_natCast];omega
 have F:A .ay .gtr (A .aC .add .i64 (A .nat n) (A .nat 1)) (A .nat n)=true:=by rw[aX A,decide_eq_true_eq,d.aC,d.nat];simp only[aC,Int.ofNat_eq_natCast];rw[IntWalk.i64_in _ (by omega)];omega
 have w:=(S.add (A:=A) E (by omega)).sub (A:=A) a (by omega) (by omega);have B:=tA w (bytes:=80) (by omega) (by decide);have g:0<=z/\z<=(n:Int):=by have:=a.eq;omega
 refine bB dZt A Tryz.func211 ?_;cbv;refine⟨g,?_⟩;cbv;rw[e1];cbv;rw[D];by_cases C:i=n
 .rw[decide_eq_true C];cbv;refine iu q u (by omega) rfl (by decide) (by omega) (λe c I p f N o=>?_);cbv;refine⟨f,e,c,_,rfl,p,rfl,?_⟩;rw[C,l,List.take_length,List.drop_length,List.append_nil];exact o
 rw[decide_eq_false C];cbv;rw[F];cbv;refine⟨g,?_⟩;cbv;refine⟨B,?_⟩;cbv;rw[cM (A:=A) a];rw[cM (A:=A) w];refine mH (q.Hu (A:=A) r) (by omega) rfl (by decide) (by omega) rfl rfl (λe c I p f N o=>?_);obtain⟨m,O⟩:∃m,m=n+1:=⟨_,rfl⟩;rw[show i+(n+1-i)=m by omega];have L:aK (A .nat m) m:=⟨by rw[d.nat];rfl⟩;have M:aK (A .nat c) c:=⟨by rw[d.nat];rfl⟩;have W:0<=z/\z<=(m:Int):=by have:=a.eq;omega
 have j:=a.add (A:=A) E (by omega);have K:0<=A .aC .add .i64 z (A .nat 1)/\A .aC .add .i64 z (A .nat 1)<=(m:Int):=by have:=j.eq;omega
 have T:(xs.take i).length=i:=by rw[List.length_take];omega
 cbv;refine⟨W,?_⟩;cbv;rw[uc (A:=A) a (by omega),bQ (A:=A) a];have y:=u.mono (f.t _);refine xG o (by decide) (i:=i) (by omega) y (by omega) (by omega) (by omega) rfl (λJ P Y o2=>?_);rw[List.take_take,Nat.min_self,List.drop_eq_nil_of_le (by omega),List.append_nil]at o2;have s:Le h J:=f.aE (by simpa using p) P;have R:=q.mono (s.t _);generalize ((min 1 (m-i):Nat):Int)=w1;cbv;refine⟨K,?_⟩;cbv;refine⟨g,?_⟩;cbv;rw[uc (A:=A) j (by omega),bQ (A:=A) j,bQ (A:=A) a,bQ (A:=A) a];refine xG o2 (by decide) (i:=i+1) (by simp;omega) (R.iH (A:=A) a r rfl rfl) (by omega) (by omega) (by omega) rfl (λV Q Z t=>?_);generalize ((min (n-i) (m-(i+1)):Nat):Int)=w2;cbv;refine⟨s.aE (by simpa using p) Q,e,c,m,rfl,p,O,?_⟩;have U:(List.take i xs++[x]).length=i+1:=by simp;omega
 have G:List.take (i+1) (List.take i xs++[x])=List.take i xs++[x]:=List.take_of_length_le (by omega);have H:List.drop (i+1+(n-i)) (List.take i xs++[x])=[]:=List.drop_eq_nil_of_le (by omega);rw[G,H,List.append_nil]at t;exact t
theorem TA{x:ep×Bool}{k:Nat}(q:Sl 79 bE h (.slice b n n) xs)(u:Sl 79 bE h (.slice vb 1 k) [x])(a:aK z i)(r:i<=n)(X:n<=2^38):
 Ct 41 [.slice b n n,.int .i64 z,.slice vb 1 k] h (λv h'=>Le h h'/\∃e c m,v=.slice (some ⟨e,0,none⟩) m c/\h e=none/\m=n+1/\cA 79 bE h' e c (xs.take i++[x]++xs.drop i)):=by
 obtain⟨A,d⟩:=Ar.ex;have l:=q.len;have S:aK (A .nat n) n:=⟨by rw[d.nat];rfl⟩;have E:aK (A .nat 1) 1:=⟨by rw[d.nat];rfl⟩;have e1:A .ay .eql (A .nat 1) 0=false:=by rw[aq A,d.nat];rfl
 have D:A .ay .eql z (A .nat n)=decide (i=n):=by rw[aq A,d.nat];have:=a.eq;rw[decide_eq_decide];simp only[Int.ofNat_eq_natCast];omega
 have F:A .ay .gtr (A .aC .add .i64 (A .nat n) (A .nat 1)) (A .nat n)=true:=by rw[aX A,decide_eq_true_eq,d.aC,d.nat];simp only[aC,Int.ofNat_eq_natCast];rw[IntWalk.i64_in _ (by omega)];omega
 have w:=(S.add (A:=A) E (by omega)).sub (A:=A) a (by omega) (by omega);have B:=tA w (bytes:=56) (by omega) (by decide);have g:0<=z/\z<=(n:Int):=by have:=a.eq;omega
 refine bB gKh A Tryz.func41 ?_;cbv;refine⟨g,?_⟩;cbv;rw[e1];cbv;rw[D];by_cases C:i=n
 .rw[decide_eq_true C];cbv;refine iu q u (by omega) rfl (by decide) (by omega) (λe c I p f N o=>?_);cbv;refine⟨f,e,c,_,rfl,p,rfl,?_⟩;rw[C,l,List.take_length,List.drop_length,List.append_nil];exact o
 rw[decide_eq_false C];cbv;rw[F];cbv;refine⟨g,?_⟩;cbv;refine⟨B,?_⟩;cbv;rw[cM (A:=A) a];rw[cM (A:=A) w];refine mH (q.Hu (A:=A) r) (by omega) rfl (by decide) (by omega) rfl rfl (λe c I p f N o=>?_);obtain⟨m,O⟩:∃m,m=n+1:=⟨_,rfl⟩;rw[show i+(n+1-i)=m by omega];have L:aK (A .nat m) m:=⟨by rw[d.nat];rfl⟩;have M:aK (A .nat c) c:=⟨by rw[d.nat];rfl⟩;have W:0<=z/\z<=(m:Int):=by have:=a.eq;omega
 have j:=a.add (A:=A) E (by omega);have K:0<=A .aC .add .i64 z (A .nat 1)/\A .aC .add .i64 z (A .nat 1)<=(m:Int):=by have:=j.eq;omega
 have T:(xs.take i).length=i:=by rw[List.length_take];omega
 cbv;refine⟨W,?_⟩;cbv;rw[uc (A:=A) a (by omega),bQ (A:=A) a];have y:=u.mono (f.t _);refine xG o (by decide) (i:=i) (by omega) y (by omega) (by omega) (by omega) rfl (λJ P Y o2=>?_);rw[List.take_take,Nat.min_self,List.drop_eq_nil_of_le (by omega),List.append_nil]at o2;have s:Le h J:=f.aE (by simpa using p) P;have R:=q.mono (s.t _);generalize ((min 1 (m-i):Nat):Int)=w1;cbv;refine⟨K,?_⟩;cbv;refine⟨g,?_⟩;cbv;rw[uc (A:=A) j (by omega),bQ (A:=A) j,bQ (A:=A) a,bQ (A:=A) a];refine xG o2 (by decide) (i:=i+1) (by simp;omega) (R.iH (A:=A) a r rfl rfl) (by omega) (by omega) (by omega) rfl (λV Q Z t=>?_);generalize ((min (n-i) (m-(i+1)):Nat):Int)=w2;cbv;refine⟨s.aE (by simpa using p) Q,e,c,m,rfl,p,O,?_⟩;have U:(List.take i xs++[x]).length=i+1:=by simp;omega
 have G:List.take (i+1) (List.take i xs++[x])=List.take i xs++[x]:=List.take_of_length_le (by omega);have H:List.drop (i+1+(n-i)) (List.take i xs++[x])=[]:=List.drop_eq_nil_of_le (by omega);rw[G,H,List.append_nil]at t;exact t
theorem eD.form{v:Value}(q:eD h v d):∃b n f a k g c l i e m j,v=.agg #[.slice b n f,.slice a k g,.slice c l i,.slice e m j]:=by obtain⟨b,n,f,a,k,g,c,l,i,e,m,j,w,rfl,-⟩:=q.out;exact⟨_,_,_,_,_,_,_,_,_,_,_,_,rfl⟩
theorem eD.mono{v:Value}(q:eD h v d)(l:Le h h'):eD h' v d:=by obtain⟨g,r,m,i,s,n,j,t,o,k,u,p,w,rfl,a,b,c,e,f⟩:=q.out;exact⟨_,_,_,_,_,_,_,_,_,_,_,_,w,rfl,a.mono (l.t _),b.mono (l.t _),c.mono (l.t _),e.mono (l.t _),f⟩
theorem oP{v:Value}(q:eD h v d):Ct 40 [v] h (λj h'=>Le h h'/\eD h' j d):=by refine(Tb q).mono (λv p hR=>?_);obtain⟨l,w,wb,r,s,k,t,n,m,u,o,W,D,J,rfl,g,a,b,c,e,f,i⟩:=hR;exact⟨l,⟨_,_,_,_,_,_,_,_,_,_,_,_,W,rfl,a.sl g,c.sl b,e,f,by rw[i,List.map_map];simp[Function.comp_def]⟩⟩
def sB(d:DB)(w:List ep):DB:={ d with ah:=w }
def iR(d:DB)(oq:Int)(i:Nat)(is:Bool):DB×Int:=
 if(decide (oq<0)||decide (oq>=8))=true then(d,1)
 else if is=true then(d,7)
 else(sB d (d.ah.take i++[⟨oq,[],[]⟩]++d.ah.drop i),0)
theorem aQd{v:Value}(q:eD h v d)(a:Int)(ag:d.ah.length<=2^37):
 Ct 12 [v,.int .i64 a] h (λv' h'=>∃g e z i is,v'=.tuple #[g,.int .i64 e]/\Le h h'/\eD h' g (iR d a i is).1/\e=(iR d a i is).2/\aK z i/\LR (d.ah.map λx=>IntKind.i64.wrap (x.s-a)) z is):=by
 obtain⟨A,hA⟩:=Ar.ex;obtain⟨k,G,s,m,H,w,n,I,B,p,K,C,rfl⟩:=q.form;generalize e1:A .ay .lss a 0=u;generalize e2:A .ay .geq a 8=f;have pJ:(decide (a<0)||decide (a>=8))=(u||f):=by rw[<-e1,<-e2,aD A,bX A]
 refine bB gKv A Tryz.func12 ?_;cbv;refine(Be q).mono (λv h1 hR=>?_);obtain⟨l1,c,tb,wb,ct,cw,W,rfl,hc,lD,rJ,nF,mQ,E,IV,Gk,cs⟩:=hR;cbv;refine(uR cs a).mono (λv h2 hR=>?_);obtain⟨l2,z,t,rfl,hb⟩:=hR;have M:LR (d.ah.map λx=>IntKind.i64.wrap (x.s-a)) z t:=by rw[E,List.map_map]at hb;exact hb
 have fN:=M;obtain⟨i,U,hi,ht⟩:=fN.out;have F:=l1.trans l2;have q2:=q.mono F;have r:(u||f)=true->iR d a i t=(d,1):=λe=>by unfold iR;rw[pJ,e];rfl
 have S:(u||f)=false->t=true->iR d a i t=(d,7):=λe O=>by unfold iR;rw[pJ,e,O];rfl
 have new:(u||f)=false->t=false->iR d a i t=(sB d (d.ah.take i++[⟨a,[],[]⟩]++d.ah.drop i),0):=λe O=>by unfold iR;rw[pJ,e,O];rfl
 have fin:∀(e:Int) (v:Value) (b:ab),Le h b->iR d a i t=(d,e)->eD b v d->∃g e1 z i is,Value.tuple #[v,.int .i64 e]=.tuple #[g,.int .i64 e1]/\Le h b/\eD b g (iR d a i is).1/\e1=(iR d a i is).2/\aK z i/\LR (d.ah.map λx=>IntKind.i64.wrap (x.s-a)) z is:=
  λe v b l hr hd=>⟨v,e,z,i,t,rfl,l,by rw[hr];exact hd,by rw[hr],U,M⟩
 cbv;rw[e1];cases u with
 |true=>cbv;refine(oP q2).mono (λv b hR=>?_);obtain⟨l,hd⟩:=hR;obtain⟨k,G,s,m,H,w,n,I,B,p,K,C,rfl⟩:=hd.form;cbv;exact fin 1 _ _ (F.trans l) (r rfl) hd
 |false=>
  cbv;rw[e2];cases f with
  |true=>cbv;refine(oP q2).mono (λv b hR=>?_);obtain⟨l,hd⟩:=hR;obtain⟨k,G,s,m,H,w,n,I,B,p,K,C,rfl⟩:=hd.form;cbv;exact fin 1 _ _ (F.trans l) (r rfl) hd
  |false=>
   cases t with
   |true=>cbv;refine(oP q2).mono (λv b hR=>?_);obtain⟨l,hd⟩:=hR;obtain⟨k,G,s,m,H,w,n,I,B,p,K,C,rfl⟩:=hd.form;cbv;exact fin 7 _ _ (F.trans l) (S rfl rfl) hd
   |false=>
    have ud:=cs.mono l2;obtain⟨m1,m2,x3,m3,k3,x4,m4,k4,o,g0,g1,g2,g3,g4,g5,g6,g7⟩:=ud.out;have gh:i<=W.length:=by have:=Bd (d.ah.map λx=>IntKind.i64.wrap (x.s-a)) 0 (d.ah.map λx=>IntKind.i64.wrap (x.s-a)).length (Nat.zero_le _);rw[hi,E];simpa using this.1
    cbv;rw[al A];rw[al A];refine ak g0 ?_;cbv;intro nb b dp e3;have l:Le h2 b:=by rw[e3];exact Le.set dp
    have gx:=(congrFun e3 nb).trans ae;have sx:Sl 79 bE b (.slice (some ⟨nb,0,none⟩) 1 1) [((⟨a,[],[]⟩:ep),true)]:=by
     refine Sl.fresh (xs:=[((⟨a,[],[]⟩:ep),true)]) gx ⟨by simp[bE],λj y T=>?_⟩ (by simp) (by simp);have Cv:j=0:=by have:=(List.getElem?_eq_some_iff.1 T).1;simp at this;exact this
     subst Cv;simp at T;subst T;exact⟨none,0,0,none,0,0,rfl,Sl.nil,Sl.nil,λ_=>rfl⟩
    have em:m2=cw:=by rw[g4,Gk]
    subst em;have P:i<=m2:=by omega
    have Q:m2<=2^38:=by rw[Gk,E,List.length_map];omega
    cbv;refine(TA ((g5.sl g4).mono (l.t _)) sx U P Q).mono (λv h4 hR=>?_);obtain⟨Y,R,V,m5,rfl,aj,Z,ow⟩:=hR;have ZB:=Y _ _ (l _ _ g0);cbv;rw[al A];rw[al A];refine jr ZB (by simp) (λD N=>?_);have X:=(congrFun N c).trans ae;have k5:Kp [c] h4 D:=by rw[N];exact Kp.set (by simp)
    have L:∀tys,148∉tys->bV tys h4 D:=λtys hn=>by rw[N];exact bV.set ZB hn
    have my:Le h D:=((F.trans l).trans Y).aE (by simpa using hc) k5;have Cx:eD D (.agg #[.slice (some ⟨tb,0,none⟩) m1 ct,.slice (some ⟨R,0,none⟩) m5 V,.slice x3 m3 k3,.slice x4 m4 k4]) (sB d (d.ah.take i++[⟨a,[],[]⟩]++d.ah.drop i)):=by
     have J:=l.trans Y;refine⟨_,_,_,_,_,_,_,_,_,_,_,_,_,rfl,((g3.sl g2).mono (J.t _)).mono (L _ (by decide)),(ow.sl ?_).mono (L _ (by decide)),(g6.mono (J.t _)).mono (L _ (by decide)),(g7.mono (J.t _)).mono (L _ (by decide)),?_⟩
     .rw[Z];simp;omega
     rw[E];simp[sB,List.map_take,List.map_drop,Function.comp_def]
    cbv;rw[al A];refine ak X ?_;cbv;refine(oP Cx).mono (λv h6 hR=>?_);obtain⟨l6,hd⟩:=hR;have jk:=new rfl rfl;have fc:=hd;generalize sB d (d.ah.take i++[⟨a,[],[]⟩]++d.ah.drop i)=d' at *;obtain⟨k,G,s,m,H,w,n,I,B,p,K,C,rfl⟩:=hd.form;cbv;exact⟨_,0,z,i,false,rfl,my.trans l6,by rw[jk];exact fc,by rw[jk],U,M⟩
def fy(d:DB)(t:List bJ):DB:={ d with aj:=t }
def eJ(d:DB)(s:rV)(is:Bool):Int:=
 if dA s≠0 then dA s
 else if is=true then 7
 else if decide (d.aj.length>=8)=true then 4
 else if decide (d.ah.length>0)=true then 18 else 0
def eR(d:DB)(s:rV)(i:Nat)(is:Bool):DB×Int:=
 if eJ d s is=0 then(fy d (d.aj.take i++[⟨s,[]⟩]++d.aj.drop i),0)else(d,eJ d s is)
theorem Vp{v:Value}(q:eD h v d){sb:Option Addr}{sn sc:Nat}(qs:Sl 202 bh h (.slice sb sn sc) cols)(aH:d.aj.length<=2^37)(aW:d.ah.length<=2^37):
 Ct 91 [v,.agg #[.string nm,.slice sb sn sc,.int .i64 key,.bool only]] h (λv' h'=>∃v1 e z i is,v'=.tuple #[v1,.int .i64 e]/\Le h h'/\eD h' v1 (eR d ⟨nm,cols,key,only⟩ i is).1/\e=(eR d ⟨nm,cols,key,only⟩ i is).2/\aK z i/\LR (d.aj.map λx=>cT x.S.name nm) z is):=by
 have q0:=q;obtain⟨I,G,M,J,H,N,K,Z,P,L,n4,Q,ws,rfl,q1,q2,-,-,qw⟩:=q0.out;refine an eXA Tryz.func91 λA hA=>?_;cbv;refine(Be q).mono (λv h1 hR=>?_);obtain⟨l1,c,tb,wb,ct,cw,W,rfl,w,lD,rJ,nF,mQ,hW,IV,Gk,cs⟩:=hR;cbv;refine(Bc (key:=key) (only:=only) (nm:=nm) (qs.mono (l1.t _))).mono (λv h2 hR=>?_);obtain⟨l2,k,rfl,uv⟩:=hR;cbv;refine(sZ (cs.mono l2) nF mQ).mono (λv h3 hR=>?_);obtain⟨rfl,C,D⟩:=hR;have Ij:Le h h3:=(l1.trans l2).aE (by simpa using w) C;cbv;refine(oB D nm).mono (λv h4 hR=>?_);obtain⟨r,z,t,rfl,hb⟩:=hR;rw[if_pos rfl]at D;obtain⟨i,hz,hi,ht⟩:=hb.out;have n:∀(E:Int) (v:Value) {V:ab},Le h V->E≠0->eJ d ⟨nm,cols,key,only⟩ t=E->eD V v d->∃v1 e1 z i is,Value.tuple #[v,.int .i64 E]=.tuple #[v1,.int .i64 e1]/\Le h V/\eD V v1 (eR d ⟨nm,cols,key,only⟩ i is).1/\e1=(eR d ⟨nm,cols,key,only⟩ i is).2/\aK z i/\LR (d.aj.map λx=>cT x.S.name nm) z is:=λE v V l f w hd=>by
  have:eR d ⟨nm,cols,key,only⟩ i t=(d,E):=by unfold eR;rw[w,if_neg f]
  exact⟨v,E,z,i,t,rfl,l,by rw[this];exact hd,by rw[this],hz,hb⟩
 cases t with
 |true=>
  cbv;refine(sZ (D.mono r) nF mQ).mono (λv T hR=>?_);obtain⟨rfl,X,O⟩:=hR;have m:Le h T:=(Ij.trans r).aE (by simpa using w) X;obtain⟨E,f⟩:∃E,E=(if k=0 then 7 else k):=⟨_,rfl⟩;rw[<-f]at O;have s:eJ d ⟨nm,cols,key,only⟩ true=E:=by unfold eJ;rw[f,<-uv];by_cases h0:k=0<;>simp[h0]
  cbv;obtain⟨Y,m2,x3,m3,C,x4,m4,k4,o,g,go,B,g3,g4,g5,g6,g7⟩:=O.out;generalize b:A .ay .neq E 0=u;rw[av A]at b;rw[al A];refine ak g ?_;cbv;rw[av A,b];cases u with
  |true=>cbv;rw[al A];refine ak g ?_;cbv;refine(oP (q.mono m)).mono (λv U hR=>?_);obtain⟨a,hd⟩:=hR;have p:=hd;obtain⟨I,G,M,J,H,N,K,Z,P,L,n4,Q,rfl⟩:=hd.form;cbv;refine ak (a _ _ g) ?_;cbv;refine⟨⟨_,rfl,rfl⟩,?_⟩;cbv;refine ak (a _ _ g) ?_;cbv;refine⟨⟨_,rfl,rfl⟩,?_⟩;cbv;exact n _ _ (m.trans a) (of_decide_eq_true b) s p
  |false=>exact absurd (of_decide_eq_false b) (by rw[f];by_cases h0:k=0<;>simp[h0])
 |false=>
  generalize eg:A .ay .geq (A .nat G) 8=ug;generalize ew:A .ay .gtr (A .nat H) 0=uw;have hg:ug=decide (d.aj.length>=8):=by rw[<-eg,bX A,hA.nat,q1.len,decide_eq_decide];simp only[Int.ofNat_eq_natCast];omega
  have hw:uw=decide (d.ah.length>0):=by
   rw[<-ew,aX A,hA.nat,q2.len,decide_eq_decide];simp only[Int.ofNat_eq_natCast];have:ws.length=d.ah.length:=by rw[<-qw,List.length_map]
   omega
  cbv;rw[eg];cases ug with
  |true=>
   cbv;refine(sZ (D.mono r) nF mQ).mono (λv T hR=>?_);obtain⟨rfl,X,O⟩:=hR;have m:Le h T:=(Ij.trans r).aE (by simpa using w) X;obtain⟨E,f⟩:∃E,E=(if k=0 then 4 else k):=⟨_,rfl⟩;rw[<-f]at O;have s:eJ d ⟨nm,cols,key,only⟩ false=E:=by unfold eJ;rw[f,<-uv,<-hg];by_cases h0:k=0<;>simp[h0]
   cbv;obtain⟨Y,m2,x3,m3,C,x4,m4,k4,o,g,go,B,g3,g4,g5,g6,g7⟩:=O.out;generalize b:A .ay .neq E 0=u;rw[av A]at b;rw[al A];refine ak g ?_;cbv;rw[av A,b];cases u with
   |true=>cbv;rw[al A];refine ak g ?_;cbv;refine(oP (q.mono m)).mono (λv U hR=>?_);obtain⟨a,hd⟩:=hR;have p:=hd;obtain⟨I,G,M,J,H,N,K,Z,P,L,n4,Q,rfl⟩:=hd.form;cbv;refine ak (a _ _ g) ?_;cbv;refine⟨⟨_,rfl,rfl⟩,?_⟩;cbv;refine ak (a _ _ g) ?_;cbv;refine⟨⟨_,rfl,rfl⟩,?_⟩;cbv;exact n _ _ (m.trans a) (of_decide_eq_true b) s p
   |false=>exact absurd (of_decide_eq_false b) (by rw[f];by_cases h0:k=0<;>simp[h0])
  |false=>
   cbv;rw[ew];cases uw with
   |true=>
    cbv;refine(sZ (D.mono r) nF mQ).mono (λv T hR=>?_);obtain⟨rfl,X,O⟩:=hR;have m:Le h T:=(Ij.trans r).aE (by simpa using w) X;obtain⟨E,f⟩:∃E,E=(if k=0 then 18 else k):=⟨_,rfl⟩;rw[<-f]at O;have s:eJ d ⟨nm,cols,key,only⟩ false=E:=by unfold eJ;rw[f,<-uv,<-hg,<-hw];by_cases h0:k=0<;>simp[h0]
    cbv;obtain⟨Y,m2,x3,m3,C,x4,m4,k4,o,g,go,B,g3,g4,g5,g6,g7⟩:=O.out;generalize b:A .ay .neq E 0=u;rw[av A]at b;rw[al A];refine ak g ?_;cbv;rw[av A,b];cases u with
    |true=>cbv;rw[al A];refine ak g ?_;cbv;refine(oP (q.mono m)).mono (λv U hR=>?_);obtain⟨a,hd⟩:=hR;have p:=hd;obtain⟨I,G,M,J,H,N,K,Z,P,L,n4,Q,rfl⟩:=hd.form;cbv;refine ak (a _ _ g) ?_;cbv;refine⟨⟨_,rfl,rfl⟩,?_⟩;cbv;refine ak (a _ _ g) ?_;cbv;refine⟨⟨_,rfl,rfl⟩,?_⟩;cbv;exact n _ _ (m.trans a) (of_decide_eq_true b) s p
    |false=>exact absurd (of_decide_eq_false b) (by rw[f];by_cases h0:k=0<;>simp[h0])
   |false=>
    have O:=D.mono r;have m:Le h h4:=Ij.trans r;obtain⟨E,f⟩:∃E,E=k:=⟨_,rfl⟩;rw[<-f]at O;have s:eJ d ⟨nm,cols,key,only⟩ false=E:=by unfold eJ;rw[f,<-uv,<-hg,<-hw];by_cases h0:k=0<;>simp[h0]
    cbv;obtain⟨Y,m2,x3,m3,C,x4,m4,k4,o,g,go,B,g3,g4,g5,g6,g7⟩:=O.out;generalize b:A .ay .neq E 0=u;rw[av A]at b;rw[al A];refine ak g ?_;cbv;rw[av A,b];cases u with
    |true=>cbv;rw[al A];refine ak g ?_;cbv;refine(oP (q.mono m)).mono (λv U hR=>?_);obtain⟨a,hd⟩:=hR;have p:=hd;obtain⟨I,G,M,J,H,N,K,Z,P,L,n4,Q,rfl⟩:=hd.form;cbv;refine ak (a _ _ g) ?_;cbv;refine⟨⟨_,rfl,rfl⟩,?_⟩;cbv;refine ak (a _ _ g) ?_;cbv;refine⟨⟨_,rfl,rfl⟩,?_⟩;cbv;exact n _ _ (m.trans a) (of_decide_eq_true b) s p
    |false=>
     have Xf:E=0:=by have:=of_decide_eq_false b;omega
     cbv;rw[al A];rw[al A];refine ak g ?_;cbv;have sT:bo.R h4 [.string nm,.slice sb sn sc,.int .i64 key,.bool only,.slice none 0 0] ⟨⟨nm,cols,key,only⟩,[]⟩:=⟨_,_,_,_,_,_,rfl,qs.mono (m.t _),Sl.nil⟩;refine(Ta sT).mono (λv U hR=>?_);obtain⟨a,d0,d1,d2,d3,d4,rfl,rT⟩:=hR;obtain⟨w1,w2,w3,w4,w5,w6,he,ao,aj⟩:=rT;cases he;have S:=a _ _ g;cbv;refine ak S ?_;cbv;refine⟨⟨_,rfl,rfl⟩,?_⟩;cbv;intro nb h7 dp e7;have F:Le U h7:=by rw[e7];exact Le.set dp
     have gx:=(congrFun e7 nb).trans ae;have sx:Sl 61 bo h7 (.slice (some ⟨nb,0,none⟩) 1 1) [(⟨⟨nm,cols,key,only⟩,[]⟩:bJ)]:=by
      refine Sl.fresh (xs:=[(⟨⟨nm,cols,key,only⟩,[]⟩:bJ)]) gx ⟨by simp[bo],λj y hj=>?_⟩ (by simp) (by simp);have Cv:j=0:=by have:=(List.getElem?_eq_some_iff.1 hj).1;simp at this;exact this
      subst Cv;simp at hj;subst hj;exact⟨_,_,_,_,_,_,rfl,ao.mono (F.t _),aj.mono (F.t _)⟩
     have ZA:=F _ _ S;have em:Y=ct:=by rw[B,IV]
     subst em;have gh:i<=Y:=by have:=(Bd (d.aj.map λx=>cT x.S.name nm) 0 (d.aj.map λx=>cT x.S.name nm).length (Nat.zero_le _)).1;rw[hi,B];simpa using this
     cbv;refine ak ZA ?_;cbv;refine⟨⟨_,rfl,rfl⟩,?_⟩;cbv;refine(Io ((g3.sl B).mono ((a.trans F).t _)) sx hz gh (by omega)).mono (λv h8 hR=>?_);obtain⟨l8,ar,aF,m5,rfl,aN,ag,ot⟩:=hR;have R:=l8 _ _ ZA;cbv;rw[al A];rw[al A];refine jr R (by simp) (λh9 e9=>?_);have au:=(congrFun e9 c).trans ae;have k9:Kp [c] h8 h9:=by rw[e9];exact Kp.set (by simp)
     have t9:∀tys,148∉tys->bV tys h8 h9:=λtys hn=>by rw[e9];exact bV.set R hn
     have Qp:Le h h9:=(((m.trans a).trans F).trans l8).aE (by simpa using w) k9;have Cx:eD h9 (.agg #[.slice (some ⟨ar,0,none⟩) m5 aF,.slice (some ⟨wb,0,none⟩) m2 cw,.slice x3 m3 C,.slice x4 m4 k4]) (fy d (d.aj.take i++[⟨⟨nm,cols,key,only⟩,[]⟩]++d.aj.drop i)):=by
      have WL:=(a.trans F).trans l8;refine⟨_,_,_,_,_,_,_,_,_,_,_,_,_,rfl,(ot.sl ?_).mono (t9 _ (by decide)),((g5.sl g4).mono (WL.t _)).mono (t9 _ (by decide)),(g6.mono (WL.t _)).mono (t9 _ (by decide)),(g7.mono (WL.t _)).mono (t9 _ (by decide)),?_⟩
      .rw[ag];simp;omega
      rw[hW];simp[fy,Function.comp_def]
     cbv;rw[al A];refine ak au ?_;cbv;refine(oP Cx).mono (λv gP hR=>?_);obtain⟨fo,hd⟩:=hR;have jk:eR d ⟨nm,cols,key,only⟩ i false=(fy d (d.aj.take i++[⟨⟨nm,cols,key,only⟩,[]⟩]++d.aj.drop i),0):=by unfold eR;rw[if_pos (s.trans Xf)]
     have p:=hd;generalize fy d (d.aj.take i++[⟨⟨nm,cols,key,only⟩,[]⟩]++d.aj.drop i)=d' at *;obtain⟨I,G,M,J,H,N,K,Z,P,L,n4,Q,rfl⟩:=hd.form;cbv;exact⟨_,0,z,i,false,rfl,Qp.trans fo,by rw[jk];exact p,by rw[jk],hz,hb⟩
end Go.S
