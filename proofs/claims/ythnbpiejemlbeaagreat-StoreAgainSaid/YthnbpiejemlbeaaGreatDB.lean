import Derived.Test.YthnbpiejemlbeaaGreatDA
set_option linter.all false
set_option maxRecDepth 100000
namespace Go.S
open Go.Sx Go.Proofs
variable {only:Bool}{nm s:ByteArray}{d:DB}{e key z:Int}{xs:List (eJ×Bool)}{H:List bZ}{cols:List jR}{c cap i j n:Nat}{b vb:Option Addr}{h h':ad}
def ji(s:ByteArray)(i:Nat):Int:=((s.data.getD i 0).toNat:Int)
def FP(z:Int):Bool:= !((decide (z<97)||decide (z>122))&&(decide (z<48)||decide (z>57))&&(z !=95))
def DA(s:ByteArray):Bool:= !(decide ((s.size:Int)<1)||decide ((s.size:Int)>12)||decide (ji s 0<97)||decide (ji s 0>122))
def AW(s:ByteArray):Bool:=(List.range s.size).all λi=>FP (ji s i)
def uJ(s:ByteArray):Bool:=jF.any λw=>decide (w=s)
theorem uI:uJ s=true↔s∈jF:=by
 grind [uJ]
def gZ(s:ByteArray):Bool:=DA s&&AW s&& !uJ s
structure fQc(h:ad)(sp:Nat):Prop where
 out:(h sp=some (.cells #[.zU 0,.int .i32 0,.zU 0,.map none] 455 (0,0)))\/
  ∃m,h sp=some (.cells #[.zU 1,.int .i32 0,.zU 0,.map (some m)] 455 (0,0))/\Mp h m .string (Ch jF)/\m≠sp
theorem bXU(w:World):(zeroValue 4).run Tryz.prog w=.ok (.bool false) w:=by
 have h:((Tryz.prog.info? 4).bind (·.zero))=some (.bool false):=by kernel_rfl
 cases a:Tryz.prog.info? 4 with
 |none=>grind
 |some i=>rw[a]at h;simp at h;simp[zeroValue,typeInfo,a,h]
theorem LP{k:Value->ad->Prop}{m:Nat}(c:Mp h m .string (Ch jF))(a:∀t,t=uJ s->k (.bool t) h):
 fL (λ_=>Tryz.prog) (λ_=>Instr.lookup 453 (.map (some m)) (.string s) false) h k:=by
 by_cases b:s∈jF
 .exact AO bKb u9 c (key:=.string s) (v:=.bool true) True.intro (kZd.2 ⟨s,b,rfl⟩) (a true (uI.2 b).symm)
 refine wq bKb u9 bXU c (key:=.string s) True.intro ?_ (a false ?_)
 .intro p d e;obtain⟨w,f,rfl⟩:=kZd.1 d
  grind
 grind [uJ,uI]
set_option maxHeartbeats 2000000 in
theorem YM{p:Nat}(q:fQc h p):
 Ct 304 [.zP p,.string s] h (λv h'=>∃t,v=.bool t/\t=gZ s/\Kp [p] h h'/\fQc h' p):=by
 refine cB eXN Tryz.func304 λA k=>?_;have H:A .lW s=(s.size:Int):=by rw[k.lW]
 have L:bg (A .lW s) s.size:=⟨H⟩;have S:∀z i,bg z i->A .byte s z=ji s i:=λz i a=>by
  rw[k.byte];simp only[ji];rw[a.eq];rfl
 generalize e1:A .aQ .lss (A .lW s) 1=t1;generalize f:A .aQ .gtr (A .lW s) 12=t2;generalize d:A .aQ .lss (A .byte s 0) 97=t3;generalize c:A .aQ .gtr (A .byte s 0) 122=t4;have T:t2=false->s.size<=12:=λe=>by
  rw[e,k.aQ,H]at f;have:=kZX f;omega
 have r:DA s= !(t1||t2||t3||t4):=by rw[<-e1,<-f,<-d,<-c,S 0 0 ⟨rfl⟩,H,k.aQ];rfl
 have K:t1=false->(0:Int)<=0/\0<(s.size:Int):=λe=>by
  rw[e,k.aQ,H]at e1;have:=kZX e1;omega
 have F:∀(t:Bool) (b:Bool),t=false->DA s=false->t=gZ s:=λt b u B=>by rw[u,gZ,B];rfl
 have U:∀(t:Bool),t=true->t=t:=λ_ _=>rfl;cbv;rw[e1];cases t1 with
 |true=>cbv;exact⟨false,rfl,F _ true rfl r,Kp.refl _ _,q⟩
 |false=>
  have C:=K rfl;cbv;rw[f];cases t2 with
  |true=>cbv;exact⟨false,rfl,F _ true rfl r,Kp.refl _ _,q⟩
  |false=>
   cbv;refine⟨C,?_⟩;cbv;rw[d];cases t3 with
   |true=>cbv;exact⟨false,rfl,F _ true rfl r,Kp.refl _ _,q⟩
   |false=>
    cbv;refine⟨C,?_⟩;cbv;rw[c];cases t4 with
    |true=>cbv;exact⟨false,rfl,F _ true rfl r,Kp.refl _ _,q⟩
    |false=>
     cbv;have W:DA s=true:=r;have T:=T rfl;clear r e1 f d c K F U;refine ba.gz (G:=Int) (λz=>[(27,.v (.zI z))]) (λ_=>[]) (λn z h'=>∃i:Nat,bg z i/\n=s.size-i/\i<=s.size/\h'=h/\∀j,j<i->FP (ji s j)=true) s.size 0 ⟨0,⟨rfl⟩,rfl,ip,rfl,λj hj=>ip⟩ ?_
     intro n z h' hI;cbv;obtain⟨i,a,V,hi,rfl,bR⟩:=hI;refine bm (λo=>?_) (λo=>?_)
     .rw[a.zQ (A:=A) L]at o;have Y:=kZr o;clear o;cbv;refine⟨a.ix Y,?_⟩;cbv;rw[S z i a];generalize hw:ji s i=w;generalize e1:A .aQ .lss w 97=t1;generalize f:A .aQ .gtr w 122=t2;generalize d:A .aQ .lss w 48=t3;generalize c:A .aQ .gtr w 57=t4;generalize x:A .aQ .neq w 95=t5;have D:FP w= !((t1||t2)&&(t3||t4)&&t5):=by rw[<-e1,<-f,<-d,<-c,<-x,k.aQ];rfl
      have ab:FP w=false->gZ s=false:=λe=>by
       grind [AW,gZ]
      have l:FP w=true->∀j,j<i+1->FP (ji s j)=true:=λe j hj=>by
       grind
      cbv;cases t1 with
      |true=>
       cbv;rw[d];cases t3 with
       |true=>
        cbv;rw[x];cases t5 with
        |true=>
         cbv
         grind [Kp.refl]
        |false=>cbv;exact zqn (s.size-(i+1)) _ ip ⟨i+1,a.succ (A:=A),rfl,ip,rfl,l (by rw[D];rfl)⟩
       |false=>
        cbv;rw[c];cases t4 with
        |true=>
         cbv;rw[x];cases t5 with
         |true=>
          cbv
          grind [Kp.refl]
         |false=>cbv;exact zqn (s.size-(i+1)) _ ip ⟨i+1,a.succ (A:=A),rfl,ip,rfl,l (by rw[D];rfl)⟩
        |false=>cbv;exact zqn (s.size-(i+1)) _ ip ⟨i+1,a.succ (A:=A),rfl,ip,rfl,l (by rw[D];rfl)⟩
      |false=>
       cbv;rw[f];cases t2 with
       |true=>
        cbv;rw[d];cases t3 with
        |true=>
         cbv;rw[x];cases t5 with
         |true=>
          cbv
          grind [Kp.refl]
         |false=>cbv;exact zqn (s.size-(i+1)) _ ip ⟨i+1,a.succ (A:=A),rfl,ip,rfl,l (by rw[D];rfl)⟩
        |false=>
         cbv;rw[c];cases t4 with
         |true=>
          cbv;rw[x];cases t5 with
          |true=>
           cbv
           grind [Kp.refl]
          |false=>cbv;exact zqn (s.size-(i+1)) _ ip ⟨i+1,a.succ (A:=A),rfl,ip,rfl,l (by rw[D];rfl)⟩
         |false=>cbv;exact zqn (s.size-(i+1)) _ ip ⟨i+1,a.succ (A:=A),rfl,ip,rfl,l (by rw[D];rfl)⟩
       |false=>cbv;exact zqn (s.size-(i+1)) _ ip ⟨i+1,a.succ (A:=A),rfl,ip,rfl,l (by rw[D];rfl)⟩
     rw[a.zQ (A:=A) L]at o;have mw:=kZX o;cbv;have I:AW s=true:=by
      grind [AW]
     rw[av A];have fin:∀t,t=uJ s->(A .not t)=gZ s:=λt u=>by
      rw[gZ,W,I,u,k.not];simp
     rcases q.out with g| ⟨m,g,mp,E⟩
     .refine(aQG (a1:=⟨p,0,none⟩) (Q:=λB=>Kp [p] h' B/\∃m,h' m=none/\B p=some (.cells #[.zU 0,.int .i32 1,.zU 0,.map (some m)] 455 (0,0))/\Mp B m .string (Ch jF)) (cJ g rfl) (cJ g rfl) (λC hu=>?_)).mono (λv O hR=>?_)
      .have e1:=hu.exp g;have g1:=zqt e1;refine(aJt g1).mono (λv N hR=>?_);obtain⟨rfl,J,m,E,y,P⟩:=hR;have k1:Kp [p] h' C:=by rw[e1];exact Kp.set io
       refine⟨rfl,cJ y rfl,cJ y rfl,k1.trans J,m,?_,y,P⟩;have bV:m≠p:=λe=>gg
       rw[e1,cH bV]at E;exact E
      obtain⟨rfl,N,h3,⟨J,m,E,y,P⟩,u3,u4⟩:=hR;have d:=u3.exp y;have g3:=zqt d;have c:=u4.exp g3;have M:=zqt c;rw[d,eI]at c;have R:Kp [p] N O:=by rw[c];exact Kp.set io
      have Z:m≠p:=λe=>gg
      have X:=P.kp R (iu Z);cbv;rw[av A];refine cy M ?_;cbv;refine LP X (λt u=>?_);cbv;exact⟨_,rfl,fin t u,J.trans R,⟨.inr ⟨m,M,X,Z⟩⟩⟩
     refine(Vy (a1:=⟨p,0,none⟩) (cJ g rfl)).mono (λv O hR=>?_);obtain⟨rfl,rfl⟩:=hR;cbv;rw[av A];refine cy g ?_;cbv;refine LP mp (λt u=>?_);cbv
     grind [Kp.refl]
theorem bQj{x:jR}{b:Nat}{n:ByteArray}(g:h b=some (.cells #[.string n] 9 (0,0))){a:Bool}{s1:ByteArray}:
 Ct 356 [.agg #[.string s1,.zI z,.bool a],.zP b] h (λv h'=>Le h h'/\∃t,v=.bool t/\t=decide (s1=n)):=by
 refine cB eQW Tryz.func356 λA c=>?_;cbv;refine cy g ?_;cbv;exact⟨Le.refl _,_,rfl,eV A _ _⟩
theorem cQK{xs:List jR}{len:Nat}(q:Sl 202 bJ h (.slice b len cap) xs){k:Nat}{a:ByteArray}(g:h k=some (.cells #[.string a] 9 (0,0))):
 Ct 355 [.slice b len cap,.func (.func 356) #[] #[.zP k]] h (λv h'=>Le h h'/\∃z:Int,v=.zI z/\uV xs (λx:jR=>decide (x.name=a)) z):=by
 have e:=q.len;obtain⟨C,Q⟩:=q.bound;generalize B:(λx:jR=>decide (x.name=a))=p;refine cB eQX Tryz.func355 λA s=>?_;cbv;refine ba.gz (G:=Int) (λz=>[(8,.v (.zI z))]) (λ_=>[]) (λn z h'=>∃i:Nat,bg z i/\n=len-i/\i<=len/\Le h h'/\∀j,j<i->∀y,xs[j]? =some y->p y=false) len 0 ⟨0,⟨rfl⟩,ip,ip,Le.refl _,λj m=>ip⟩ ?_
 intro n z h' I;cbv;obtain⟨i,c,w,u,l,R⟩:=I;refine bm (λd=>?_) (λd=>?_)
 .have Z:=c.lt d;clear d;cbv;obtain⟨x,hx⟩:=cK xs i;refine⟨⟨q.bu,c.ix Z⟩,?_⟩;cbv;refine(q.mono (l.t _)).load hx c.eq (λcs r=>?_);have r:cs=[.string x.name,.zI x.kind,.bool x.null]:=r;subst r;cbv;refine(bQj (x:=x) (l _ _ g)).mono (λv o hR=>?_);obtain⟨M,t,rfl,f⟩:=hR;have f:t=p x:=gg
  cbv;cases t with
  |true=>cbv;exact⟨l.trans M,z,rfl,⟨.inr ⟨i,x,c,hx,f.symm,R⟩⟩⟩
  |false=>
   cbv;refine zqn (len-(i+1)) _ ip ⟨i+1,c.succ (A:=A),rfl,ip,l.trans M,?_⟩
   grind
 have D:=c.ge d;cbv;refine⟨l,-1,rfl,⟨.inl ⟨rfl,λx hx=>?_⟩⟩⟩;obtain⟨j,m⟩:=kXT hx
 grind
theorem cJg(q:Sl 202 bJ h (.slice b n c) cols){k:Int}:
 Ct 305 [.agg #[.string nm,.slice b n c,.zI k,.bool only],.string s] h (λv h'=>Le h h'/\∃z t a,v=.tuple #[.zI z,.bool t]/\uV cols (λx=>decide (x.name=s)) a/\z=max a 0/\t=decide (a>=0)):=by
 refine cB eXM Tryz.func305 λA f=>?_;cbv;intro m d e e1;have l:Le h d:=zqs e1 e
 have g:=zqt e1;cbv;refine(cQK (q.mono (l.t _)) g).mono (λv o hR=>?_);obtain⟨j,z,rfl,i⟩:=hR;cbv;exact⟨l.trans j,_,_,z,rfl,i,by rw[f.imax],cF A _ _⟩
theorem Kp.dZx{e:Nat}{c:Array Value}{fr:Nat×Nat}{tys:List Nat}(x:Kp [n] h h')(g:h n=some (.cells c e fr))(j:e∉tys):cX tys h h':=λb d i L m a=>by
 by_cases f:b=n
 .grind
 exact x b _ a (iu f)
def ig(cols:List jR)(i:Nat)(c:jR):Int:=
 if(!gZ c.name||(cols.take i).any λx=>decide (x.name=c.name))=true then 12 else if(decide (c.kind<1)||decide (c.kind>3))=true then 3 else 0
def lI(cols:List jR):Int:=((cols.zipIdx.map λ(c,i)=>ig cols i c).find? (λz=>z !=0)).getD 0
def ey(s:rM):Int:=
 if(!gZ s.name)=true then 12
 else if(decide ((s.cols.length:Int)<1)||decide ((s.cols.length:Int)>6))=true then 4
 else if lI s.cols≠0 then lI s.cols
 else if(decide (s.key<0)||decide (s.key>=(s.cols.length:Int)))=true then 1
 else if((s.cols[s.key.toNat]?).map (·.null)).getD false=true then 13 else 0
theorem GU{c:jR}(h:cols[i]? =some c)(R:∀j,j<i->∀y,cols[j]? =some y->ig cols j y=0)(b:ig cols i c≠0):lI cols=ig cols i c:=by
 unfold lI;have:(cols.zipIdx.map λ(c,i)=>ig cols i c).find? (λz=>z !=0)=some (ig cols i c):=by
  rw[kQT];have a:=(HH.1 h).1;refine⟨iu b,i,iu a,?_,λj d=>?_⟩
  .grind
  grind
 rw[this];rfl
theorem BI(b:∀j,j<cols.length->∀y,cols[j]? =some y->ig cols j y=0):lI cols=0:=by
 unfold lI;have:(cols.zipIdx.map λ(c,i)=>ig cols i c).find? (λz=>z !=0)=none:=by
  grind
 rw[this];rfl
theorem Zf{c:jR}(d:cols[i]? =some c)(r:uV cols (λx=>decide (x.name=c.name)) z):
 decide (max z 0<(i:Int))=(cols.take i).any λx=>decide (x.name=c.name):=by
 rcases r.out with⟨-,h⟩|⟨k,x,a,hx,p,R⟩
 .grind
 have f:=a.eq;by_cases Z:k<i
 .rw[kS ip,eq_comm,wM];exact⟨x,kQR (i:=k) gg,p⟩
 have g:¬i<k:=λh=>gg
 rw[kQW ip,eq_comm,rB];intro y b;obtain⟨j,e⟩:=kXT b
 grind
set_option maxHeartbeats 2000000 in
theorem EK(q:Sl 202 bJ h (.slice b n c) cols):
 Ct 210 [.agg #[.string nm,.slice b n c,.zI key,.bool only]] h (λv h'=>Le h h'/\∃z,v=.zI z/\z=ey ⟨nm,cols,key,only⟩):=by
 obtain⟨A,N⟩:=Ar.ex;have u:=q.len;obtain⟨lG,gQ⟩:=q.bound;have X:A .nat n=(cols.length:Int):=by rw[N.nat,u];rfl
 have CP:bg (A .nat n) n:=⟨gg⟩;generalize e1:A .aQ .lss (A .nat n) 1=t1;generalize f:A .aQ .gtr (A .nat n) 6=t2;have K:(decide ((cols.length:Int)<1)||decide ((cols.length:Int)>6))=(t1||t2):=by rw[<-e1,<-f,X,aV A,bF A]
 refine kh eJu A Tryz.func210 ?_;cbv;intro w L M J;have p:Le h L:=zqs J M
 have Q:=zqt J;have s1:fQc L w:=⟨.inl Q⟩;have q1:=q.mono (p.t _);clear J;cbv;refine(YM s1).mono (λv h2 hR=>?_);obtain⟨t,rfl,ht,E,s2⟩:=hR;cbv;rw[N.not];cases t with
 |false=>
  cbv;refine⟨p.bf (iu M) E,12,rfl,?_⟩;unfold ey
  grind
 |true=>
  cbv;rw[e1];have d:(t1||t2)=true->(4:Int)=ey ⟨nm,cols,key,only⟩:=λW=>by
   grind [ey]
  cases t1 with
  |true=>cbv;exact⟨p.bf (iu M) E,4,rfl,d rfl⟩
  |false=>
   cbv;rw[f];cases t2 with
   |true=>cbv;exact⟨p.bf (iu M) E,4,rfl,d rfl⟩
   |false=>
    clear d e1 f;cbv;refine ba.go (G:=Int) (λz=>[(25,.v (.zI z))]) (λ_=>[(1,[.string nm,.slice b n c,.zI key,.bool only])])
     (λk z h'=>∃i:Nat,bg z i/\k=n-i/\i<=n/\Kp [w] L h'/\fQc h' w/\∀j,j<i->∀y,cols[j]? =some y->ig cols j y=0) n 0 ⟨?_,?_,?_⟩ ⟨0,⟨rfl⟩,ip,ip,E,s2,λj V=>ip⟩ ?_
    .cbv
    .cbv
    .cbv
    intro k z h' hI;cbv;obtain⟨i,o,hk,hi,kp,O,R⟩:=hI;refine bm (λD=>?_) (λD=>?_)
    .have aZ:=o.lt D;clear D;cbv;obtain⟨x,hx⟩:=cK cols i;have I:=q1.mono (Kp.dZx kp Q dl);refine⟨⟨q.bu,o.ix aZ⟩,?_⟩;cbv;refine I.load hx o.eq (λcs r=>?_);have r:cs=[.string x.name,.zI x.kind,.bool x.null]:=r;subst r;generalize U:x.name=xn at *;generalize PM:x.kind=xk at *;cbv;refine(cJg I).mono (λv h3 hR=>?_);obtain⟨H,z3,t3,z',rfl,hr,IK,ab⟩:=hR;have s3:fQc h3 w:=by
      rcases O.out with g| ⟨m,g,mp,W⟩
      .exact⟨.inl (H _ _ g)⟩
      exact⟨.inr ⟨m,H _ _ g,mp.kp (H.kp []) io,W⟩⟩
     have ic:A .aQ .lss z3 z=(cols.take i).any λy=>decide (y.name=xn):=by rw[aV A,IK,o.eq,<-U];exact Zf hx gg
     cbv;refine(YM s3).mono (λv h4 hR=>?_);obtain⟨t,rfl,P,k4,s4⟩:=hR;have F:=(kp.trans (H.kp _)).trans k4;have a:Le h h4:=p.bf (iu M) F;have l:∀e:Int,ig cols i x=e->e≠0->e=ey ⟨nm,cols,key,only⟩:=λe he bV=>by
      have h5:=GU hx R gg
      grind [ey]
     have ja:ig cols i x=0->∀j,j<i+1->∀y,cols[j]? =some y->ig cols j y=0:=λe j V y Y=>by
      grind
     generalize e1:A .aQ .lss z3 z=B at *;generalize f:A .aQ .lss xk 1=C;generalize S:A .aQ .gtr xk 3=u3;have Z:ig cols i x=if(!t||B)=true then 12 else if(C||u3)=true then 3 else 0:=by unfold ig;rw[U,PM,<-P,<-ic,<-f,<-S,aV A,bF A]
     cbv;rw[N.not];cases t with
     |false=>cbv;exact⟨a,12,rfl,l 12 Z dl⟩
     |true=>
      cbv;try rw[e1]
      cases B with
      |true=>cbv;exact⟨a,12,rfl,l 12 Z dl⟩
      |false=>
       cbv;rw[f];cases C with
       |true=>cbv;exact⟨a,3,rfl,l 3 Z dl⟩
       |false=>
        cbv;rw[S];cases u3 with
        |true=>cbv;exact⟨a,3,rfl,l 3 Z dl⟩
        |false=>
         cbv;refine zqn (n-(i+1)) _ ip ⟨i+1,o.succ (A:=A),rfl,ip,F,s4,ja Z⟩
    have mw:=o.ge D;have h0:lI cols=0:=BI λj V y Y=>R j ip y Y;have a:Le h h':=p.bf (iu M) kp;have I:=q1.mono (Kp.dZx kp Q dl);generalize e1:A .aQ .lss key 0=B;generalize f:A .aQ .geq key (A .nat n)=C;have s:ey ⟨nm,cols,key,only⟩=if(B||C)=true then 1 else if((cols[key.toNat]?).map (·.null)).getD false=true then 13 else 0:=by unfold ey;rw[<-ht,K];simp only[h0];rw[if_neg io,if_neg io,if_neg io,<-e1,<-f,aV A,cF A,X]
    cbv;rw[e1];cases B with
    |true=>cbv;exact⟨a,1,rfl,s.symm⟩
    |false=>
     cbv;rw[f];cases C with
     |true=>cbv;exact⟨a,1,rfl,s.symm⟩
     |false=>
      obtain⟨T,sU⟩:=PG A e1 f;obtain⟨x,hx⟩:=cK cols key.toNat;rw[hx]at s;cbv;refine⟨⟨q.bu,T.ix sU⟩,?_⟩;cbv;refine I.cI hx T.eq dl (λcs r=>?_);have r:cs=[.string x.name,.zI x.kind,.bool x.null]:=r;subst r;have s:ey ⟨nm,cols,key,only⟩=if x.null=true then 13 else 0:=s
      generalize x.null=nl at *;cases nl with
      |true=>cbv;exact⟨a,13,rfl,s.symm⟩
      |false=>cbv;exact⟨a,0,rfl,s.symm⟩
theorem aQQ(a b:Int)(h:ad)(c d:Value):Ct 97 [.agg #[.zI a,c,d],.zI b] h (λv h'=>Le h h'/\∃z,v=.zI z/\z=IntKind.i64.wrap (a-b)):=by refine cB iQa Tryz.func97 λA e=>?_;cbv;exact⟨Le.refl _,_,rfl,by rw[e.aX];rfl⟩
theorem eQA{len:Nat}(q:Sl 79 cu h (.slice b len cap) xs)(r:Int):
 Ct 96 [.slice b len cap,.zI r,.func (.func 97) #[] #[]] h (λv h'=>Le h h'/\∃(z:Int) (t:Bool),v=.tuple #[.zI z,.bool t]/\Rb (xs.map (λx:eJ×Bool=>IntKind.i64.wrap (x.1.s-r))) z t):=by
 have f:=q.len;obtain⟨U,R⟩:=q.bound;have S:(xs.map (λx:eJ×Bool=>IntKind.i64.wrap (x.1.s-r))).length=len:=by simp[f]
 generalize hl:xs.map (λx:eJ×Bool=>IntKind.i64.wrap (x.1.s-r))=l at S;have V:∀(i:Nat) x,xs[i]? =some x->l[i]? =some ((λx:eJ×Bool=>IntKind.i64.wrap (x.1.s-r)) x):=λi x hx=>gg
 refine cB iQb Tryz.func96 λA c=>?_;cbv;refine ba.go (G:=Int×Int) (λg=>[(9,.v (.zI g.1)),(10,.v (.zI g.2))]) (λ_=>[])
  (λn g h'=>∃i j:Nat,bg g.1 i/\bg g.2 j/\n=j-i/\i<=j/\j<=len/\Le h h'/\sM l 0 len=sM l i j) len (0,A .nat len) ⟨?_,?_,?_⟩ ⟨0,len,⟨rfl⟩,⟨by rw[c.nat];rfl⟩,ip,ip,ip,Le.refl _,rfl⟩ ?_
 .cbv
 .cbv
 .cbv
 intro n g h' I;cbv;obtain⟨i,j,a,m,T,W,O,e,B⟩:=I;refine bm (λd=>?_) (λd=>?_)
 .rw[a.zQ (A:=A) m,kJP]at d;cbv;refine⟨dl,?_⟩;cbv;have o:=a.gXu (A:=A) m ip ip;obtain⟨x,hx⟩:=ay (xs:=xs) (i:=(i+j) / 2) ip;refine⟨⟨q.bu,o.ix ip⟩,?_⟩;cbv;refine(q.mono (e.t _)).load hx o.eq (λcs p=>?_);obtain⟨s,L,J,y,N,K,rfl,P,Q,-⟩:=p;cbv;refine(aQQ x.1.s r _ _ _).mono (λv C hR=>?_);obtain⟨M,z,rfl,F⟩:=hR;cbv;have E:l.getD ((i+j) / 2) 0=z:=gg
  have D:=B;rw[sM.eq_1 l i j,if_pos d,E]at D;refine bm (λk=>?_) (λk=>?_)
  .rw[c.aQ]at k;have H:z<0:=kZr k;rw[if_pos H]at D;clear k H;cbv;refine zqn (j-((i+j) / 2+1)) (_,g.2) ip ⟨(i+j) / 2+1,j,o.succ (A:=A),m,rfl,ip,O,e.trans M,D⟩
  rw[c.aQ]at k;have H:¬z<0:=kZX k;rw[if_neg H]at D;clear k H;cbv;refine zqn ((i+j) / 2-i) (g.1,A .conv .i64 (A .aX .shr .u64 (A .conv .u64 (A .aX .add .i64 g.1 g.2)) 1)) ip ⟨i,(i+j) / 2,a,o,rfl,ip,ip,e.trans M,D⟩
 rw[a.zQ (A:=A) m,decide_eq_false_iff_not]at d;cbv;have D:=B;rw[sM.eq_1 l i j,if_neg d]at D;have u:=a.zQ (A:=A) (w:=A .nat len) (j:=len) ⟨by rw[c.nat];rfl⟩;refine bm (λk=>?_) (λk=>?_)
 .rw[k];rw[u,kJP]at k;cbv;obtain⟨x,hx⟩:=cK xs i;refine⟨⟨q.bu,a.ix ip⟩,?_⟩;cbv;refine(q.mono (e.t _)).load hx a.eq (λcs p=>?_);obtain⟨s,L,J,y,N,K,rfl,P,Q,-⟩:=p;cbv;refine(aQQ x.1.s r _ _ _).mono (λv C hR=>?_);obtain⟨M,z,rfl,F⟩:=hR;cbv;refine⟨e.trans M,_,_,rfl,⟨i,a,?_,?_⟩⟩
  .grind
  rw[c.aQ]
  grind [hx,aQ]
 rw[k];rw[u,decide_eq_false_iff_not]at k;cbv;refine⟨e,_,_,rfl,⟨i,a,?_,?_⟩⟩
 .grind
 grind
theorem zA{wb b w:Nat}{T:List bS}{W:List (eJ×Bool)}{a:List bZ}(q:kO h c j wb b w T W H a e)(r:Int):
 Ct 39 [.zP c,.zI r] h (λv h'=>Le h h'/\∃z t,v=.tuple #[.zI z,.bool t]/\Rb (W.map (λx=>IntKind.i64.wrap (x.1.s-r))) z t):=by
 obtain⟨F,G,k,I,n,m,J,p,o,g,s,u,y,d,f,B,C⟩:=q.out;refine cB iQT Tryz.func39 λA E=>?_;cbv;rw[av A];rw[av A];refine cy g ?_;cbv;refine(eQA (f.sl d) r).mono (λv D hR=>?_);obtain⟨l,z,t,rfl,i⟩:=hR;cbv;exact⟨l,z,t,rfl,i⟩
theorem rQ{wb b w:Nat}{T:List bS}{W:List (eJ×Bool)}{a:List bZ}(q:kO h c j wb b w T W H a e)(n:ByteArray):
 Ct 116 [.zP c,.string n] h (λv h'=>Le h h'/\∃z t,v=.tuple #[.zI z,.bool t]/\Rb (T.map (λx=>dy x.S.name n)) z t):=by
 obtain⟨F,G,k,I,p,m,J,r,o,g,s,d,f,u,y,B,C⟩:=q.out;refine cB eKS Tryz.func116 λA E=>?_;cbv;rw[av A];rw[av A];refine cy g ?_;cbv;refine(hXl (f.sl d) n).mono (λv D hR=>?_);obtain⟨l,z,t,rfl,i⟩:=hR;cbv;exact⟨l,z,t,rfl,i⟩
theorem ML{xs:List bS}{x:bS}(q:Sl 61 bT h (.slice b n n) xs)(s:Sl 61 bT h (.slice vb 1 j) [x])(a:bg z i)(k:i<=n)(U:n<=2^38):
 Ct 211 [.slice b n n,.zI z,.slice vb 1 j] h (λv h'=>Le h h'/\∃e c m,v=.slice (zsA e) m c/\h e=none/\m=n+1/\dt 61 bT h' e c (xs.take i++[x]++xs.drop i)):=by
 obtain⟨A,d⟩:=Ar.ex;have o:=q.len;have C:bg (A .nat n) n:=⟨by rw[d.nat];rfl⟩;have J:bg (A .nat 1) 1:=⟨by rw[d.nat];rfl⟩;have e1:A .aQ .eql (A .nat 1) 0=false:=by rw[au A,d.nat];rfl
 have t:A .aQ .eql z (A .nat n)=decide (i=n):=by
  rw[au A,d.nat];have:=a.eq
  grind
 have u:A .aQ .gtr (A .aX .add .i64 (A .nat n) (A .nat 1)) (A .nat n)=true:=by rw[bF A,kJP,d.aX,d.nat];simp only[aX,kZn];rw[IntWalk.i64_in _ ip];omega
 have w:=(C.add (A:=A) J ip).sub (A:=A) a ip ip;have L:=xE w (bytes:=80) ip dl;have f:0<=z/\z<=(n:Int):=by have:=a.eq;omega
 refine kh eJt A Tryz.func211 ?_;cbv;refine⟨f,?_⟩;cbv;rw[e1];cbv;rw[t];by_cases N:i=n
 .rw[kS N];cbv;refine jI q s ip rfl dl ip (λe c y M l D p=>?_);cbv;refine⟨l,e,c,_,rfl,M,rfl,?_⟩
  grind
 rw[kQW N];cbv;rw[u];cbv;refine⟨f,?_⟩;cbv;refine⟨L,?_⟩;cbv;rw[dJ (A:=A) a];rw[dJ (A:=A) w];refine pa (q.Ip (A:=A) k) ip rfl dl ip rfl rfl (λe c y M l D p=>?_);obtain⟨m,F⟩:∃m,m=n+1:=⟨_,rfl⟩;rw[show i+(n+1-i)=m by omega];have G:bg (A .nat m) m:=⟨by rw[d.nat];rfl⟩;have X:bg (A .nat c) c:=⟨by rw[d.nat];rfl⟩;have Z:0<=z/\z<=(m:Int):=gg
 have g:=a.add (A:=A) J ip;have Q:0<=A .aX .add .i64 z (A .nat 1)/\A .aX .add .i64 z (A .nat 1)<=(m:Int):=by have:=g.eq;omega
 have O:(xs.take i).length=i:=gg
 cbv;refine⟨Z,?_⟩;cbv;rw[yj (A:=A) a ip,cS (A:=A) a];have E:=s.mono (l.t _);refine BG p dl (i:=i) ip E ip ip ip rfl (λB H W o2=>?_);rw[kKe,kXn,wy ip,kJH]at o2;have r:Le h B:=l.bf (iu M) H;have K:=q.mono (r.t _);generalize ((min 1 (m-i):Nat):Int)=w1;cbv;refine⟨Q,?_⟩;cbv;refine⟨f,?_⟩;cbv;rw[yj (A:=A) g ip,cS (A:=A) g,cS (A:=A) a,cS (A:=A) a];refine BG o2 dl (i:=i+1) (by simp;omega) (K.jX (A:=A) a k rfl rfl) ip ip ip rfl (λT I Y V=>?_);generalize ((min (n-i) (m-(i+1)):Nat):Int)=w2;cbv;refine⟨r.bf (iu M) I,e,c,m,rfl,M,F,?_⟩;have P:(List.take i xs++[x]).length=i+1:=by simp;omega
 have R:List.take (i+1) (List.take i xs++[x])=List.take i xs++[x]:=kXe ip;have S:List.drop (i+1+(n-i)) (List.take i xs++[x])=[]:=wy ip
 grind
theorem Zd{x:eJ×Bool}(q:Sl 79 cu h (.slice b n n) xs)(s:Sl 79 cu h (.slice vb 1 j) [x])(a:bg z i)(k:i<=n)(U:n<=2^38):
 Ct 41 [.slice b n n,.zI z,.slice vb 1 j] h (λv h'=>Le h h'/\∃e c m,v=.slice (zsA e) m c/\h e=none/\m=n+1/\dt 79 cu h' e c (xs.take i++[x]++xs.drop i)):=by
 obtain⟨A,d⟩:=Ar.ex;have o:=q.len;have C:bg (A .nat n) n:=⟨by rw[d.nat];rfl⟩;have J:bg (A .nat 1) 1:=⟨by rw[d.nat];rfl⟩;have e1:A .aQ .eql (A .nat 1) 0=false:=by rw[au A,d.nat];rfl
 have t:A .aQ .eql z (A .nat n)=decide (i=n):=by
  rw[au A,d.nat];have:=a.eq
  grind
 have u:A .aQ .gtr (A .aX .add .i64 (A .nat n) (A .nat 1)) (A .nat n)=true:=by rw[bF A,kJP,d.aX,d.nat];simp only[aX,kZn];rw[IntWalk.i64_in _ ip];omega
 have w:=(C.add (A:=A) J ip).sub (A:=A) a ip ip;have L:=xE w (bytes:=56) ip dl;have f:0<=z/\z<=(n:Int):=by have:=a.eq;omega
 refine kh iQS A Tryz.func41 ?_;cbv;refine⟨f,?_⟩;cbv;rw[e1];cbv;rw[t];by_cases N:i=n
 .rw[kS N];cbv;refine jI q s ip rfl dl ip (λe c y M l D p=>?_);cbv;refine⟨l,e,c,_,rfl,M,rfl,?_⟩
  grind
 rw[kQW N];cbv;rw[u];cbv;refine⟨f,?_⟩;cbv;refine⟨L,?_⟩;cbv;rw[dJ (A:=A) a];rw[dJ (A:=A) w];refine pa (q.Ip (A:=A) k) ip rfl dl ip rfl rfl (λe c y M l D p=>?_);obtain⟨m,F⟩:∃m,m=n+1:=⟨_,rfl⟩;rw[show i+(n+1-i)=m by omega];have G:bg (A .nat m) m:=⟨by rw[d.nat];rfl⟩;have X:bg (A .nat c) c:=⟨by rw[d.nat];rfl⟩;have Z:0<=z/\z<=(m:Int):=gg
 have g:=a.add (A:=A) J ip;have Q:0<=A .aX .add .i64 z (A .nat 1)/\A .aX .add .i64 z (A .nat 1)<=(m:Int):=by have:=g.eq;omega
 have O:(xs.take i).length=i:=gg
 cbv;refine⟨Z,?_⟩;cbv;rw[yj (A:=A) a ip,cS (A:=A) a];have E:=s.mono (l.t _);refine BG p dl (i:=i) ip E ip ip ip rfl (λB H W o2=>?_);rw[kKe,kXn,wy ip,kJH]at o2;have r:Le h B:=l.bf (iu M) H;have K:=q.mono (r.t _);generalize ((min 1 (m-i):Nat):Int)=w1;cbv;refine⟨Q,?_⟩;cbv;refine⟨f,?_⟩;cbv;rw[yj (A:=A) g ip,cS (A:=A) g,cS (A:=A) a,cS (A:=A) a];refine BG o2 dl (i:=i+1) (by simp;omega) (K.jX (A:=A) a k rfl rfl) ip ip ip rfl (λT I Y V=>?_);generalize ((min (n-i) (m-(i+1)):Nat):Int)=w2;cbv;refine⟨r.bf (iu M) I,e,c,m,rfl,M,F,?_⟩;have P:(List.take i xs++[x]).length=i+1:=by simp;omega
 have R:List.take (i+1) (List.take i xs++[x])=List.take i xs++[x]:=kXe ip;have S:List.drop (i+1+(n-i)) (List.take i xs++[x])=[]:=wy ip
 grind
theorem fD.form{v:Value}(q:fD h v d):∃b n f a k g c l i e m j,v=.agg #[.slice b n f,.slice a k g,.slice c l i,.slice e m j]:=by
 obtain⟨b,n,f,a,k,g,c,l,i,e,m,j,ws,rfl,-⟩:=q.out
 grind
theorem fD.mono{v:Value}(q:fD h v d)(l:Le h h'):fD h' v d:=by obtain⟨g,r,m,i,s,n,j,t,o,k,u,p,ws,rfl,a,b,c,e,f⟩:=q.out;exact⟨_,_,_,_,_,_,_,_,_,_,_,_,ws,rfl,a.mono (l.t _),b.mono (l.t _),c.mono (l.t _),e.mono (l.t _),f⟩
theorem sF{v:Value}(q:fD h v d):Ct 40 [v] h (λj h'=>Le h h'/\fD h' j d):=by refine(YG q).mono (λv p hR=>?_);obtain⟨l,w,wb,r,s,k,t,n,m,u,o,W,O,C,rfl,g,a,b,c,e,f,i⟩:=hR;exact⟨l,⟨_,_,_,_,_,_,_,_,_,_,_,_,W,rfl,a.sl g,c.sl b,e,f,by rw[i,kXS];simp[Function.comp_def]⟩⟩
def wj(d:DB)(w:List eJ):DB:={ d with ai:=w }
def jl(d:DB)(rG:Int)(i:Nat)(is:Bool):DB×Int:=
 if(decide (rG<0)||decide (rG>=8))=true then(d,1)
 else if is=true then(d,7)
 else(wj d (d.ai.take i++[⟨rG,[],[]⟩]++d.ai.drop i),0)
theorem bQN{v:Value}(q:fD h v d)(r:Int)(ab:d.ai.length<=2^37):
 Ct 12 [v,.zI r] h (λv' h'=>∃m e z i is,v'=.tuple #[m,.zI e]/\Le h h'/\fD h' m (jl d r i is).1/\e=(jl d r i is).2/\bg z i/\Rb (d.ai.map λx=>IntKind.i64.wrap (x.s-r)) z is):=by
 obtain⟨A,hA⟩:=Ar.ex;obtain⟨n,G,B,p,H,C,s,I,D,w,J,E,rfl⟩:=q.form;generalize e1:A .aQ .lss r 0=u;generalize Y:A .aQ .geq r 8=k;have tM:(decide (r<0)||decide (r>=8))=(u||k):=by rw[<-e1,<-Y,aV A,cF A]
 refine kh iXl A Tryz.func12 ?_;cbv;refine(EM q).mono (λv h1 hR=>?_);obtain⟨l1,c,tb,wb,ct,cw,W,rfl,hc,nO,vC,qj,px,hW,ND,KD,cs⟩:=hR;cbv;refine(zA cs r).mono (λv h2 hR=>?_);obtain⟨l2,z,t,rfl,hb⟩:=hR;have M:Rb (d.ai.map λx=>IntKind.i64.wrap (x.s-r)) z t:=by rw[hW,kXS]at hb;exact hb
 have gQ:=M;obtain⟨i,P,hi,ht⟩:=gQ.out;have f:=l1.trans l2;have V:=q.mono f;have g:(u||k)=true->jl d r i t=(d,1):=λe=>by unfold jl;grind
 have Q:(u||k)=false->t=true->jl d r i t=(d,7):=λe et=>by unfold jl;grind
 have new:(u||k)=false->t=false->jl d r i t=(wj d (d.ai.take i++[⟨r,[],[]⟩]++d.ai.drop i),0):=λe et=>by unfold jl;grind
 have fin:∀(e:Int) (v:Value) (a:ad),Le h a->jl d r i t=(d,e)->fD a v d->∃m e1 z i is,Value.tuple #[v,.zI e]=.tuple #[m,.zI e1]/\Le h a/\fD a m (jl d r i is).1/\e1=(jl d r i is).2/\bg z i/\Rb (d.ai.map λx=>IntKind.i64.wrap (x.s-r)) z is:=
  λe v a l hr hd=>⟨v,e,z,i,t,rfl,l,gg,by rw[hr],P,M⟩
 cbv;rw[e1];cases u with
 |true=>cbv;refine(sF V).mono (λv a hR=>?_);obtain⟨l,hd⟩:=hR;obtain⟨n,G,B,p,H,C,s,I,D,w,J,E,rfl⟩:=hd.form;cbv;exact fin 1 _ _ (f.trans l) (g rfl) hd
 |false=>
  cbv;rw[Y];cases k with
  |true=>cbv;refine(sF V).mono (λv a hR=>?_);obtain⟨l,hd⟩:=hR;obtain⟨n,G,B,p,H,C,s,I,D,w,J,E,rfl⟩:=hd.form;cbv;exact fin 1 _ _ (f.trans l) (g rfl) hd
  |false=>
   cases t with
   |true=>cbv;refine(sF V).mono (λv a hR=>?_);obtain⟨l,hd⟩:=hR;obtain⟨n,G,B,p,H,C,s,I,D,w,J,E,rfl⟩:=hd.form;cbv;exact fin 7 _ _ (f.trans l) (Q rfl rfl) hd
   |false=>
    have yp:=cs.mono l2;obtain⟨m1,U,x3,m3,k3,x4,m4,k4,o,g0,g1,g2,g3,g4,g5,g6,g7⟩:=yp.out;have ic:i<=W.length:=by
     grind [EL]
    cbv;rw[av A];rw[av A];refine cy g0 ?_;cbv;intro nb a eM e3;have l:Le h2 a:=zqs e3 eM
    have gx:=zqt e3;have sx:Sl 79 cu a (.slice (zsA nb) 1 1) [((⟨r,[],[]⟩:eJ),true)]:=by
     refine Sl.fresh (xs:=[((⟨r,[],[]⟩:eJ),true)]) gx ⟨by simp[cu],λj y hj=>?_⟩ io io;have Gw:j=0:=by
      grind
     subst Gw;simp at hj;subst hj;exact⟨none,0,0,none,0,0,rfl,Sl.nil,Sl.nil,λ_=>rfl⟩
    have em:U=cw:=by rw[g4,KD]
    subst em;have O:i<=U:=ip
    have X:U<=2^38:=gg
    cbv;refine(Zd ((g5.sl g4).mono (l.t _)) sx P O X).mono (λv h4 hR=>?_);obtain⟨T,Z,R,m5,rfl,ag,KC,ow⟩:=hR;have b:=T _ _ (l _ _ g0);cbv;rw[av A];rw[av A];refine jE b io (λF N=>?_);have S:=zqt N;have k5:Kp [c] h4 F:=by rw[N];exact Kp.set io
    have L:∀tys,148∉tys->cX tys h4 F:=λtys hn=>by rw[N];exact cX.set b hn
    have oP:Le h F:=((f.trans l).trans T).bf (iu hc) k5;have Gy:fD F (.agg #[.slice (zsA tb) m1 ct,.slice (zsA Z) m5 R,.slice x3 m3 k3,.slice x4 m4 k4]) (wj d (d.ai.take i++[⟨r,[],[]⟩]++d.ai.drop i)):=by
     have K:=l.trans T;refine⟨_,_,_,_,_,_,_,_,_,_,_,_,_,rfl,((g3.sl g2).mono (K.t _)).mono (L _ dl),(ow.sl ?_).mono (L _ dl),(g6.mono (K.t _)).mono (L _ dl),(g7.mono (K.t _)).mono (L _ dl),?_⟩
     .grind
     rw[hW];simp[wj,wL,kZV,Function.comp_def]
    cbv;rw[av A];refine cy S ?_;cbv;refine(sF Gy).mono (λv h6 hR=>?_);obtain⟨l6,hd⟩:=hR;have ll:=new rfl rfl;have gP:=hd;generalize wj d (d.ai.take i++[⟨r,[],[]⟩]++d.ai.drop i)=d' at *;obtain⟨n,G,B,p,H,C,s,I,D,w,J,E,rfl⟩:=hd.form;cbv;exact⟨_,0,z,i,false,rfl,oP.trans l6,gg,by rw[ll],P,M⟩
def gY(d:DB)(t:List bS):DB:={ d with ao:=t }
def eY(d:DB)(s:rM)(is:Bool):Int:=
 if ey s≠0 then ey s
 else if is=true then 7
 else if decide (d.ao.length>=8)=true then 4
 else if decide (d.ai.length>0)=true then 18 else 0
def fJ(d:DB)(s:rM)(i:Nat)(is:Bool):DB×Int:=
 if eY d s is=0 then(gY d (d.ao.take i++[⟨s,[]⟩]++d.ao.drop i),0)else(d,eY d s is)
theorem aQL{v:Value}(q:fD h v d){sb:Option Addr}{sn sc:Nat}(qs:Sl 202 bJ h (.slice sb sn sc) cols)(ao:d.ao.length<=2^37)(ar:d.ai.length<=2^37):
 Ct 91 [v,.agg #[.string nm,.slice sb sn sc,.zI key,.bool only]] h (λv' h'=>∃v1 e z i is,v'=.tuple #[v1,.zI e]/\Le h h'/\fD h' v1 (fJ d ⟨nm,cols,key,only⟩ i is).1/\e=(fJ d ⟨nm,cols,key,only⟩ i is).2/\bg z i/\Rb (d.ao.map λx=>dy x.S.name nm) z is):=by
 have q0:=q;obtain⟨G,D,L,I,F,M,J,n3,N,K,n4,O,ws,rfl,q1,q2,-,-,qw⟩:=q0.out;refine cB fZx Tryz.func91 λA hA=>?_;cbv;refine(EM q).mono (λv h1 hR=>?_);obtain⟨l1,c,tb,wb,ct,cw,W,rfl,s,nO,vC,qj,px,hW,ND,KD,cs⟩:=hR;cbv;refine(EK (key:=key) (only:=only) (nm:=nm) (qs.mono (l1.t _))).mono (λv h2 hR=>?_);obtain⟨l2,r,rfl,yI⟩:=hR;cbv;refine(xj (cs.mono l2) qj px).mono (λv h3 hR=>?_);obtain⟨rfl,w,H⟩:=hR;have ME:Le h h3:=(l1.trans l2).bf (iu s) w;cbv;refine(rQ H nm).mono (λv h4 hR=>?_);obtain⟨p,z,t,rfl,hb⟩:=hR;rw[if_pos rfl]at H;obtain⟨i,hz,hi,ht⟩:=hb.out;have k:∀(E:Int) (v:Value) {X:ad},Le h X->E≠0->eY d ⟨nm,cols,key,only⟩ t=E->fD X v d->∃v1 e1 z i is,Value.tuple #[v,.zI E]=.tuple #[v1,.zI e1]/\Le h X/\fD X v1 (fJ d ⟨nm,cols,key,only⟩ i is).1/\e1=(fJ d ⟨nm,cols,key,only⟩ i is).2/\bg z i/\Rb (d.ao.map λx=>dy x.S.name nm) z is:=λE v X l n s hd=>by
  have:fJ d ⟨nm,cols,key,only⟩ i t=(d,E):=by unfold fJ;grind
  grind
 cases t with
 |true=>
  cbv;refine(xj (H.mono p) qj px).mono (λv S hR=>?_);obtain⟨rfl,Y,f⟩:=hR;have P:Le h S:=(ME.trans p).bf (iu s) Y;obtain⟨E,n⟩:∃E,E=(if r=0 then 7 else r):=⟨_,rfl⟩;rw[<-n]at f;have C:eY d ⟨nm,cols,key,only⟩ true=E:=by
   grind [eY]
  cbv;obtain⟨m1,m2,x3,m3,w,x4,m4,k4,o,g,go,R,g3,g4,g5,g6,g7⟩:=f.out;generalize b:A .aQ .neq E 0=u;rw[aJ A]at b;rw[av A];refine cy g ?_;cbv;rw[aJ A,b];cases u with
  |true=>cbv;rw[av A];refine cy g ?_;cbv;refine(sF (q.mono P)).mono (λv T hR=>?_);obtain⟨a,hd⟩:=hR;have m:=hd;obtain⟨G,D,L,I,F,M,J,n3,N,K,n4,O,rfl⟩:=hd.form;cbv;refine cy (a _ _ g) ?_;cbv;refine zqr ?_;cbv;refine cy (a _ _ g) ?_;cbv;refine zqr ?_;cbv;exact k _ _ (P.trans a) (kZr b) C m
  |false=>exact absurd (kZX b) gg
 |false=>
  generalize eg:A .aQ .geq (A .nat D) 8=ug;generalize ew:A .aQ .gtr (A .nat F) 0=uw;have hg:ug=decide (d.ao.length>=8):=by rw[<-eg,cF A,hA.nat,q1.len,decide_eq_decide];grind
  have hw:uw=decide (d.ai.length>0):=by rw[<-ew,bF A,hA.nat,q2.len,decide_eq_decide];grind
  cbv;rw[eg];cases ug with
  |true=>
   cbv;refine(xj (H.mono p) qj px).mono (λv S hR=>?_);obtain⟨rfl,Y,f⟩:=hR;have P:Le h S:=(ME.trans p).bf (iu s) Y;obtain⟨E,n⟩:∃E,E=(if r=0 then 4 else r):=⟨_,rfl⟩;rw[<-n]at f;have C:eY d ⟨nm,cols,key,only⟩ false=E:=by
    grind [eY]
   cbv;obtain⟨m1,m2,x3,m3,w,x4,m4,k4,o,g,go,R,g3,g4,g5,g6,g7⟩:=f.out;generalize b:A .aQ .neq E 0=u;rw[aJ A]at b;rw[av A];refine cy g ?_;cbv;rw[aJ A,b];cases u with
   |true=>cbv;rw[av A];refine cy g ?_;cbv;refine(sF (q.mono P)).mono (λv T hR=>?_);obtain⟨a,hd⟩:=hR;have m:=hd;obtain⟨G,D,L,I,F,M,J,n3,N,K,n4,O,rfl⟩:=hd.form;cbv;refine cy (a _ _ g) ?_;cbv;refine zqr ?_;cbv;refine cy (a _ _ g) ?_;cbv;refine zqr ?_;cbv;exact k _ _ (P.trans a) (kZr b) C m
   |false=>exact absurd (kZX b) gg
  |false=>
   cbv;rw[ew];cases uw with
   |true=>
    cbv;refine(xj (H.mono p) qj px).mono (λv S hR=>?_);obtain⟨rfl,Y,f⟩:=hR;have P:Le h S:=(ME.trans p).bf (iu s) Y;obtain⟨E,n⟩:∃E,E=(if r=0 then 18 else r):=⟨_,rfl⟩;rw[<-n]at f;have C:eY d ⟨nm,cols,key,only⟩ false=E:=by
     grind [eY]
    cbv;obtain⟨m1,m2,x3,m3,w,x4,m4,k4,o,g,go,R,g3,g4,g5,g6,g7⟩:=f.out;generalize b:A .aQ .neq E 0=u;rw[aJ A]at b;rw[av A];refine cy g ?_;cbv;rw[aJ A,b];cases u with
    |true=>cbv;rw[av A];refine cy g ?_;cbv;refine(sF (q.mono P)).mono (λv T hR=>?_);obtain⟨a,hd⟩:=hR;have m:=hd;obtain⟨G,D,L,I,F,M,J,n3,N,K,n4,O,rfl⟩:=hd.form;cbv;refine cy (a _ _ g) ?_;cbv;refine zqr ?_;cbv;refine cy (a _ _ g) ?_;cbv;refine zqr ?_;cbv;exact k _ _ (P.trans a) (kZr b) C m
    |false=>exact absurd (kZX b) gg
   |false=>
    have f:=H.mono p;have P:Le h h4:=ME.trans p;obtain⟨E,n⟩:∃E,E=r:=⟨_,rfl⟩;rw[<-n]at f;have C:eY d ⟨nm,cols,key,only⟩ false=E:=by
     grind [eY]
    cbv;obtain⟨m1,m2,x3,m3,w,x4,m4,k4,o,g,go,R,g3,g4,g5,g6,g7⟩:=f.out;generalize b:A .aQ .neq E 0=u;rw[aJ A]at b;rw[av A];refine cy g ?_;cbv;rw[aJ A,b];cases u with
    |true=>cbv;rw[av A];refine cy g ?_;cbv;refine(sF (q.mono P)).mono (λv T hR=>?_);obtain⟨a,hd⟩:=hR;have m:=hd;obtain⟨G,D,L,I,F,M,J,n3,N,K,n4,O,rfl⟩:=hd.form;cbv;refine cy (a _ _ g) ?_;cbv;refine zqr ?_;cbv;refine cy (a _ _ g) ?_;cbv;refine zqr ?_;cbv;exact k _ _ (P.trans a) (kZr b) C m
    |false=>
     have GF:E=0:=gg
     cbv;rw[av A];rw[av A];refine cy g ?_;cbv;have sT:bT.R h4 [.string nm,.slice sb sn sc,.zI key,.bool only,.zN] ⟨⟨nm,cols,key,only⟩,[]⟩:=⟨_,_,_,_,_,_,rfl,qs.mono (P.t _),Sl.nil⟩;refine(YF sT).mono (λv T hR=>?_);obtain⟨a,d0,d1,d2,d3,d4,rfl,rT⟩:=hR;obtain⟨w1,w2,w3,w4,w5,w6,he,ak,ag⟩:=rT;cases he;have V:=a _ _ g;cbv;refine cy V ?_;cbv;refine zqr ?_;cbv;intro nb h7 eM e7;have B:Le T h7:=zqs e7 eM
     have gx:=zqt e7;have sx:Sl 61 bT h7 (.slice (zsA nb) 1 1) [(⟨⟨nm,cols,key,only⟩,[]⟩:bS)]:=by
      refine Sl.fresh (xs:=[(⟨⟨nm,cols,key,only⟩,[]⟩:bS)]) gx ⟨by simp[bT],λj y hj=>?_⟩ io io;have Gw:j=0:=by
       grind
      subst Gw;simp at hj;subst hj;exact⟨_,_,_,_,_,_,rfl,ak.mono (B.t _),ag.mono (B.t _)⟩
     have Q:=B _ _ V;have em:m1=ct:=by rw[R,ND]
     subst em;have ic:i<=m1:=by
      grind [EL,dy]
     cbv;refine cy Q ?_;cbv;refine zqr ?_;cbv;refine(ML ((g3.sl R).mono ((a.trans B).t _)) sx hz ic ip).mono (λv h8 hR=>?_);obtain⟨l8,ab,an,m5,rfl,aq,KC,ot⟩:=hR;have U:=l8 _ _ Q;cbv;rw[av A];rw[av A];refine jE U io (λh9 e9=>?_);have al:=zqt e9;have k9:Kp [c] h8 h9:=by rw[e9];exact Kp.set io
     have t9:∀tys,148∉tys->cX tys h8 h9:=λtys hn=>by rw[e9];exact cX.set U hn
     have Wm:Le h h9:=(((P.trans a).trans B).trans l8).bf (iu s) k9;have Gy:fD h9 (.agg #[.slice (zsA ab) m5 an,.slice (zsA wb) m2 cw,.slice x3 m3 w,.slice x4 m4 k4]) (gY d (d.ao.take i++[⟨⟨nm,cols,key,only⟩,[]⟩]++d.ao.drop i)):=by
      have Z:=(a.trans B).trans l8;refine⟨_,_,_,_,_,_,_,_,_,_,_,_,_,rfl,(ot.sl ?_).mono (t9 _ dl),((g5.sl g4).mono (Z.t _)).mono (t9 _ dl),(g6.mono (Z.t _)).mono (t9 _ dl),(g7.mono (Z.t _)).mono (t9 _ dl),?_⟩
      .grind
      grind [gY]
     cbv;rw[av A];refine cy al ?_;cbv;refine(sF Gy).mono (λv iE hR=>?_);obtain⟨gD,hd⟩:=hR;have ll:fJ d ⟨nm,cols,key,only⟩ i false=(gY d (d.ao.take i++[⟨⟨nm,cols,key,only⟩,[]⟩]++d.ao.drop i),0):=by grind [fJ]
     have m:=hd;generalize gY d (d.ao.take i++[⟨⟨nm,cols,key,only⟩,[]⟩]++d.ao.drop i)=d' at *;obtain⟨G,D,L,I,F,M,J,n3,N,K,n4,O,rfl⟩:=hd.form;cbv;exact⟨_,0,z,i,false,rfl,Wm.trans gD,gg,by rw[ll],hz,hb⟩
end Go.S
