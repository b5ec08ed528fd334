import Derived.Test.YtficmdggjjepmaaGreatBF
set_option linter.all false
set_option maxRecDepth 100000
set_option maxHeartbeats 4000000
namespace Go.S
open Go.Sx Go.Proofs
variable {A:Ar}{id m u z:Int}{L:List cW}{a c e1 i j n p:Nat}{b:Option Addr}{s:St}{k:Value->ab->Prop}{h h':ab}
structure iv(h:ab)(p:Nat)(s:St):Prop where
 out:∃bb n c l z i err,h p=some (.cells (List.toArray [.slice bb n c,.int .i64 z,.int .i64 err]) 290 (0,0))/\Sl 5 bS h (.slice bb n c) l/\aM z i/\i<=n/\s=if err=0 then some (l.drop i)else none
theorem iv.le(q:iv h p s)(l:Le h h'):iv h' p s:=by obtain⟨bb,n,c,xs,z,i,err,g,sl,d,a,b⟩:=q.out;exact⟨bb,n,c,xs,z,i,err,l _ _ g,sl.mono (l.t _),d,a,b⟩
theorem iv.mt(q:iv h p s)(l:cf [290,5] h h'):iv h' p s:=by obtain⟨bb,n,c,xs,z,i,err,g,sl,d,a,b⟩:=q.out;exact⟨bb,n,c,xs,z,i,err,l _ _ _ _ (by decide) g,sl.mono (l.sub),d,a,b⟩
theorem iv.lt(q:iv h p s)(k:Kp [p] h h'){tys:List Nat}(e:290∉tys):cf tys h h':=by obtain⟨bb,n,c,xs,z,i,err,g,-⟩:=q.out;exact Au k g e
theorem HK{l:Bs}(q:Sl 5 bS h (.slice b n c) l)
 (f:∀h' p,h p=none->Le h h'->iv h' p (some l)->k (.pointer (some ⟨p,0,none⟩)) h'):Ct 98 [.slice b n c] h k:=by
 refine cp fJX Tryz.func98 λA g=>?_;cbv;intro p a d e1;have e:Le h a:=by rw[e1];exact Le.set d
 have:=f a p d e ⟨b,n,c,l,0,0,0,(congrFun e1 p).trans ae,q.mono (e.t _),⟨rfl⟩,qT _,rfl⟩;clear e1;cbv;exact this
theorem iv.wr{c:List Value}{bb:Option Addr}{cc:Nat}{l:Bs}{err:Int}(g:h p=some (.cells (List.toArray c) 290 (0,0)))(e:h'=bH h p (.cells (List.toArray [.slice bb n cc,.int .i64 z,.int .i64 err]) 290 (0,0)))(sl:Sl 5 bS h (.slice bb n cc) l)(d:aM z i)(a:i<=n)(b:s=if err=0 then some (l.drop i)else none):Kp [p] h h'/\iv h' p s/\cf [5] h h':=by
 have t:cf [5] h h':=by rw[e];exact cf.set g (by decide)
 exact⟨by rw[e];exact Kp.set (by simp),⟨bb,n,cc,l,z,i,err,(congrFun e p).trans ae,sl.mono t,d,a,b⟩,t⟩
theorem DW(q:iv h p s)(F:aM z n)
 (j:∀h' b m c,Kp [p] h h'->iv h' p (dO n s).2->Sl 5 bS h' (.slice b m c) (dO n s).1->k (.slice b m c) h'):Ct 194 [.pointer (some ⟨p,0,none⟩),.int .i64 z] h k:=by
 obtain⟨A,J⟩:=Ar.ex;obtain⟨bb,m,c,l,u,i,err,g,sl,W,hi,t⟩:=q.out;have L:=sl.len;have iD:=sl.bound;have H:A .az .eql err 0=decide (err=0):=aq A ..;have fn:A .az .neq err 0=decide (err≠0):=av A ..;refine fG A [3] (ah cJw.aw cJw.aP) Tryz.func194 rfl (by kernel_rfl) ?_;have g0:=g;obtain⟨C,f⟩:∃C:Int->ab->Prop,∀e h',C e h'=(h' p=some (.cells (List.toArray [.slice bb m c,.int .i64 u,.int .i64 e]) 290 (0,0))/\Kp [p] h h'/\cf [5] h h'/\(e=0->i+n<=m/\dO n s=((l.drop i).take n,some ((l.drop i).drop n)))/\(e≠0->dO n s=([],none))):=⟨_,λ_ _=>rfl⟩;cbv;refine jA.go (G:=Int) (λ_=>[]) (λ_=>[]) C ?_ ?_
 .cbv;rw[ao A];refine bc g ?_;cbv;rw[H];by_cases a:err=0
  .rw[if_pos a]at t;have f1:A .az .lss (A .aC .sub .i64 (A .nat m) u) z=decide (m-i<n):=by rw[aJ A,J.aC,J.nat,W.eq,F.eq];refine decide_eq_decide.2 ?_;show IntKind.i64.wrap ((m:Int)-(i:Int))<(n:Int)↔_;rw[IntWalk.i64_in _ (by omega)];omega
   subst t a;have T:dO n (some (l.drop i))=if n<=(l.drop i).length then((l.drop i).take n,some ((l.drop i).drop n))else([],none):=rfl
   rw[ec]at T;rw[aH rfl];cbv;rw[ao A];refine bc g ?_;cbv;rw[ao A];refine bc g ?_;cbv;rw[f1];by_cases K:m-i<n
   .rw[if_neg (by omega)]at T;have d:∀h',h'=bH h p (.cells (List.toArray [.slice bb m c,.int .i64 u,.int .i64 8]) 290 (0,0))->C 8 h':=λh' e=>by
     rw[f];exact⟨(congrFun e p).trans ae,by rw[e];exact Kp.set (by simp),by rw[e];exact cf.set g (by decide),λr=>absurd r (by decide),λ_=>T⟩
    rw[aH K];clear f j T;cbv;rw[ao A];refine iB g (mr _) (λD e1=>?_);have d:=d D e1;clear e1;cbv;refine⟨8,by constructor<;>cbv,d⟩
   rw[if_pos (by omega)]at T;have d:C 0 h:=by rw[f];exact⟨g,Kp.refl _ _,cf.refl _ _,λ_=>⟨by omega,T⟩,λr=>absurd rfl r⟩
   rw[ag K];clear f j T;cbv;refine⟨0,by constructor<;>cbv,d⟩
  rw[if_neg a]at t;subst t;have d:C err h:=by rw[f];exact⟨g,Kp.refl _ _,cf.refl _ _,λr=>absurd r a,λ_=>rfl⟩
  rw[ag a];clear f j;cbv;refine⟨err,by constructor<;>cbv,d⟩
 intro e D d;rw[f]at d;cbv;obtain⟨o,O,t1,Y,c1⟩:=d;have fe:A .az .neq e 0=decide (e≠0):=av A ..;have Q:=sl.mono (t1.sub);clear f C H fn t;rw[ao A];refine bc o ?_;cbv;rw[fe];by_cases a:e≠0
 .rw[aH a];have T:=c1 a;rw[T]at j;have:=j D none 0 0 O ⟨bb,m,c,l,u,i,e,o,Q,W,hi,by rw[if_neg a]⟩ Sl.nil;cbv;exact this
 rw[ag a];have a:e=0:=by omega
 obtain⟨fZ,T⟩:=Y a;rw[T]at j;subst a;obtain⟨w,N⟩:∃w,w=A .aC .add .i64 u z:=⟨_,rfl⟩;have Z:aM w (i+n):=by rw[N];exact W.add (A:=A) F (by omega)
 obtain⟨v,M⟩:∃v,v=A .aC .sub .i64 w z:=⟨_,rfl⟩;have X:aM v i:=by
  have:=Z.sub (A:=A) F (by omega) (by omega);rw[<-M]at this;have e:i+n-n=i:=by omega
  rw[e]at this;exact this
 obtain⟨R,E⟩:∃x,x=n:=⟨n,rfl⟩;obtain⟨c2,P⟩:∃x,x=c-i:=⟨_,rfl⟩;have V:A .mW w v=R:=by rw[EK (A:=A) Z X,E];omega
 have U:A .mW (A .nat c) v=c2:=by rw[bZ (A:=A) X,P]
 have ea:0<=w/\w<=(c:Int)/\0<=v/\v<=w:=by have:=Z.eq;have:=X.eq;omega
 have S:=(Q.gT (A:=A) X (by omega) (m:=m-i) rfl P).short (m:=R) (by omega);rw[E]at S;cbv;rw[ao A];refine bc o ?_;cbv;rw[ao A,<-N];refine iB o (by show 2<=3;decide) (λI y=>?_);obtain⟨k2,r2,t2⟩:=iv.wr (s:=some ((l.drop i).drop n)) (bb:=bb) (n:=m) (cc:=c) (l:=l) (z:=w) (i:=i+n) (err:=0) o y Q Z (by omega) (by rw[if_pos rfl,hKa]);have B:I p=some (.cells (List.toArray [.slice bb m c,.int .i64 w,.int .i64 0]) 290 (0,0)):=(congrFun y p).trans ae;have:=j I _ _ _ (O.trans k2) r2 (S.mono (t2.sub));clear y j;cbv;rw[ao A];refine bc B ?_;cbv;rw[ao A];refine bc B ?_;cbv;rw[ao A,<-M];refine bc B ?_;cbv;refine⟨ea,?_⟩;cbv;rw[V,U,E];exact this
def lM(s:St):gI×St:=
 if(ar 1 s).1=0 then(⟨0,0,⟨#[]⟩⟩,(ar 1 s).2)
 else if(ar 1 s).1=1 then(⟨1,((ar 1 (ar 1 s).2).1:Int),⟨#[]⟩⟩,(ar 1 (ar 1 s).2).2)
 else if(ar 1 s).1=2 then(⟨2,IntKind.i64.wrap ((ar 8 (ar 1 s).2).1:Int),⟨#[]⟩⟩,(ar 8 (ar 1 s).2).2)
 else if(ar 1 s).1=3 then(⟨3,0,strOf (aG (ar 1 s).2).1⟩,(aG (ar 1 s).2).2)
 else(⟨((ar 1 s).1:Int),0,⟨#[]⟩⟩,none)
def eH:Nat->St->Row×St
 |0,s=>([],s)
 |n+1,s=>((lM s).1::(eH n (lM s).2).1,(eH n (lM s).2).2)
def gN(r:Row×St):Option Row:=if r.2=some []then if r.1.all (λv=>decide (dX v=0))=true then some r.1 else none else none
def dS(b:Bs):Option Row:=
 if(ar 1 (some b)).1>6 then gN (eH 0 none)else gN (eH (ar 1 (some b)).1 (ar 1 (some b)).2)
theorem Cl(n:Nat):∀s,(eH n s).1.length=n:=by
 induction n with
 |zero=>exact λs=>rfl
 |succ n i=>exact λs=>by simp only[eH,hJB,i]
theorem aKx(q:fF h p s)(g:∀h' v,v=(lM s).1->Kp [p] h h'->fF h' p (lM s).2->k (.agg #[.int .i64 v.k,.int .i64 v.n,.string v.s]) h'):
 Ct 325 [.agg #[.pointer (some ⟨p,0,none⟩)]] h k:=by
 have V:lM s=if(ar 1 s).1=0 then(⟨0,0,⟨#[]⟩⟩,(ar 1 s).2)
  else if(ar 1 s).1=1 then(⟨1,((ar 1 (ar 1 s).2).1:Int),⟨#[]⟩⟩,(ar 1 (ar 1 s).2).2)
  else if(ar 1 s).1=2 then(⟨2,IntKind.i64.wrap ((ar 8 (ar 1 s).2).1:Int),⟨#[]⟩⟩,(ar 8 (ar 1 s).2).2)
  else if(ar 1 s).1=3 then(⟨3,0,strOf (aG (ar 1 s).2).1⟩,(aG (ar 1 s).2).2)
  else(⟨((ar 1 s).1:Int),0,⟨#[]⟩⟩,none):=rfl
 refine cp cXB Tryz.func325 λA C=>?_;cbv;refine pI q (λw x hx l m=>?_);have f:A .az .eql x 0=decide ((ar 1 s).1=0):=by rw[aq A];exact decide_eq_decide.2 (by omega)
 have e:A .az .eql x 1=decide ((ar 1 s).1=1):=by rw[aq A];exact decide_eq_decide.2 (by omega)
 have i:A .az .eql x 2=decide ((ar 1 s).1=2):=by rw[aq A];exact decide_eq_decide.2 (by omega)
 have u:A .az .eql x 3=decide ((ar 1 s).1=3):=by rw[aq A];exact decide_eq_decide.2 (by omega)
 by_cases n:(ar 1 s).1=0
 .rw[if_pos n]at V;have a:x=0:=by omega
  have:=g w ⟨0,0,⟨#[]⟩⟩ (by rw[V]) l (by rw[V];exact m);rw[aH n]at f;subst a;cbv;rw[f];cbv;exact this
 rw[if_neg n]at V;rw[ag n]at f;by_cases o:(ar 1 s).1=1
 .rw[if_pos o]at V;have a:x=1:=by omega
  rw[aH o]at e;subst a;cbv;rw[f];cbv;rw[e];cbv;refine pI m (λb y j c d=>?_);have:=g b ⟨1,y,⟨#[]⟩⟩ (by rw[V,j]) (l.trans c) (by rw[V];exact d);cbv;exact this
 rw[if_neg o]at V;rw[ag o]at e;by_cases r:(ar 1 s).1=2
 .rw[if_pos r]at V;have a:x=2:=by omega
  rw[aH r]at i;subst a;cbv;rw[f];cbv;rw[e];cbv;rw[i];cbv;refine Yc m (λb y j c d=>?_);have:=g b ⟨2,y,⟨#[]⟩⟩ (by rw[V,j]) (l.trans c) (by rw[V];exact d);cbv;exact this
 rw[if_neg r]at V;rw[ag r]at i;by_cases t:(ar 1 s).1=3
 .rw[if_pos t]at V;have a:x=3:=by omega
  rw[aH t]at u;subst a;cbv;rw[f];cbv;rw[e];cbv;rw[i];cbv;rw[u];cbv;refine vU m (λb y j c d=>?_);have:=g b ⟨3,0,y⟩ (by rw[V,j]) (l.trans c) (by rw[V];exact d);cbv;exact this
 rw[if_neg t]at V;rw[ag t]at u;have Y:∀h',Kp [p] h h'->fF h' p none->k (.agg #[.int .i64 x,.int .i64 0,.string ⟨#[]⟩]) h':=λh' z B=>g h' ⟨x,0,⟨#[]⟩⟩ (by rw[V,hx]) z (by rw[V];exact B);clear g V hx;cbv;rw[f];cbv;rw[e];cbv;rw[i];cbv;rw[u];cbv;refine pH m 3 (λb c d=>?_);have:=Y b (l.trans c) d;cbv;exact this
theorem XZ{m:Nat}{l:Bs}(q:Sl e1 bS h (.slice b m c) l)
 (B:dS l=none->∀h' (e:Int),Le h h'->e≠0->k (.tuple #[.slice none 0 0,.int .i64 e]) h')
 (F:∀r h' b n c,dS l=some r->Le h h'->Sl 87 aZ h' (.slice b n c) r->n<=6->k (.tuple #[.slice b n c,.int .i64 0]) h'):
 Ct 281 [.slice b m c] h k:=by
 obtain⟨A,hA⟩:=Ar.ex;have P:dS l=if(ar 1 (some l)).1>6 then gN (eH 0 none)else gN (eH (ar 1 (some l)).1 (ar 1 (some l)).2):=rfl
 refine fG A [7] (ah cZj.aw cZj.aP) Tryz.func281 rfl (by kernel_rfl) ?_;cbv;refine JZ q (λh1 p hp l1 q1=>?_);cbv;refine pI q1 (λh2 x hx k2 q2=>?_);have l2:Le h h2:=l1.aE (bs:=[p]) (by simpa using hp) k2;generalize ar 1 (some l)=R at *;obtain⟨O,s1⟩:=R;have q2:fF h2 p s1:=q2;have hx:x=(O:Int):=hx;have P:dS l=if O>6 then gN (eH 0 none)else gN (eH O s1):=P
 have f1:A .az .gtr x 6=decide (O>6):=by rw[aO A];exact decide_eq_decide.2 (by omega)
 obtain⟨C,Z⟩:∃C:Int->ab->Prop,∀z h1,C z h1=(∃d D,aM z d/\d<=6/\Le h h1/\fF h1 p D/\dS l=gN (eH d D)):=⟨_,λ_ _=>rfl⟩;cbv;refine jA.go (G:=Int) (λz=>[(6,.v (.int .i64 z))]) (λ_=>[(4,[.pointer (some ⟨p,0,none⟩)])]) C ?_ ?_
 .cbv;rw[f1];by_cases t:O>6
  .rw[if_pos t]at P;have Y:∀h',Kp [p] h2 h'->fF h' p none->C 0 h':=λh' k' q'=>by
    rw[Z];exact⟨0,none,⟨rfl⟩,by omega,l2.aE (bs:=[p]) (by simpa using hp) k',q',P⟩
   rw[aH t];clear Z P f1 B F;cbv;refine pH q2 4 (λh4 k4 q4=>?_);have Y:=Y h4 k4 q4;cbv;refine⟨0,by constructor<;>cbv,Y⟩
  rw[if_neg t]at P;have Y:C x h2:=by rw[Z];exact⟨O,s1,⟨hx⟩,by omega,l2,q2,P⟩
  rw[ag t];clear Z P f1 B F;cbv;refine⟨x,by constructor<;>cbv,Y⟩
 intro z h4 t;rw[Z]at t;obtain⟨d,D,aj,QU,l4,q4,P⟩:=t;clear Z f1 q1 q2 k2 l1 l2;obtain⟨J,S⟩:∃J:Nat->((Option Addr×Nat×Nat)×Int)->ab->Prop,∀w g h',J w g h'=(∃i o f,aM g.2 i/\w=d-i/\i<=d/\Le h h'/\fF h' p o/\aT 87 aZ h h' (.slice g.1.1 g.1.2.1 g.1.2.2) f/\f.length=i/\f++(eH (d-i) o).1=(eH d D).1/\(eH (d-i) o).2=(eH d D).2):=⟨_,λ_ _ _=>rfl⟩;have eP:J d ((none,0,0),0) h4:=by rw[S];exact⟨0,D,[],⟨rfl⟩,rfl,by omega,l4,q4,aT.nil,rfl,rfl,rfl⟩
 cbv;refine aK.go (G:=(Option Addr×Nat×Nat)×Int) (λg=>[(7,.v (.slice g.1.1 g.1.2.1 g.1.2.2)),(26,.v (.int .i64 g.2))]) (λ_=>[(4,[.pointer (some ⟨p,0,none⟩)])]) (λw g h'=>J w g h') d ((none,0,0),0) (by constructor<;>cbv) eP ?_
 intro w g W hI;rw[S]at hI;cbv;obtain⟨⟨gb,H,gc⟩,zi⟩:=g;obtain⟨i,o,f,eW,hw,hi,l5,q5,T,ud,U,E⟩:=hI;have eW:aM zi i:=eW;have T:aT 87 aZ h W (.slice gb H gc) f:=T;have pW:=T.sl.len;have f2:A .az .lss zi z=decide (i<d):=by rw[aJ A,eW.eq,aj.eq];exact decide_eq_decide.2 (by omega)
 rw[f2];by_cases t:i<d
 .have M:eH (d-i) o=((lM o).1::(eH (d-(i+1)) (lM o).2).1,(eH (d-(i+1)) (lM o).2).2):=by
   have:d-i=(d-(i+1))+1:=by omega
   rw[this];rfl
  rw[M]at U E;have V:∀h' u m' c',m'=H+1->Le h h'->fF h' p (lM o).2->aT 87 aZ h h' (.slice u m' c') (f++[(lM o).1])->J (d-(i+1)) ((u,m',c'),A .aC .add .i64 zi 1) h':=λh' u m' c' e l' q' u=>by
   rw[S];refine⟨i+1,_,_,eW.succ (A:=A),rfl,by omega,l',q',u,?_,?_,E⟩
   .rw[dr,ud];rfl
   rw[<-U];simp
  have aI:d-(i+1)<w:=by omega
  have Re:H+1<=2^39:=by omega
  rw[aH t];clear S eP M U E f2 B F P t;cbv;refine aKx q5 (λN v hv k6 q6=>?_);have t6:cf [87] W N:=q5.lt k6 (by decide);have L:Le h N:=l5.aE (bs:=[p]) (by simpa using hp) k6;rw[<-hv]at V;generalize lM o=R1 at *;obtain⟨v0,s3⟩:=R1;have q6:fF N p s3:=q6;have V:∀h' u m' c',m'=H+1->Le h h'->fF h' p s3->aT 87 aZ h h' (.slice u m' c') (f++[v])->J (d-(i+1)) ((u,m',c'),A .aC .add .i64 zi 1) h':=V;have b6:=T.mono t6;obtain⟨vk,vn,vs⟩:=v;cbv;intro n7 K BR e7;have MD:Le N K:=by rw[e7];exact Le.set BR
  have s7:Sl 87 aZ K (.slice (some ⟨n7,0,none⟩) 1 1) [⟨vk,vn,vs⟩]:=bC (s:=aZ) ((congrFun e7 n7).trans ae) rfl;clear e7;cbv;refine(b6.mono (MD.t _)).append s7 (by decide) rfl (by decide) Re (L.trans MD) (λm8 b8 c8 h8 ai l8 t8 k8 ak=>?_);have q8:=(q6.le MD).mt (t8 _ (by decide));have dt:=V h8 b8 m8 c8 ai l8 q8 ak;clear V k8;cbv;refine⟨_,((b8,m8,c8),A .aC .add .i64 zi 1),aI,by constructor<;>cbv,dt⟩
 have hi:i=d:=by omega
 subst hi;rw[hJW]at U E;have U:f=(eH i D).1:=by rw[<-U];show f=f++[];simp
 have E:o=(eH i D).2:=E;generalize eH i D=RR at *;obtain⟨r0,s9⟩:=RR;have U:f=r0:=U;have E:o=s9:=E;subst U E;have P:dS l=if o=some []then if f.all (λv=>decide (dX v=0))=true then some f else none else none:=P
 rw[ag t];clear S eP f2 t;cbv;refine Cb q5 (λe he=>?_);have f3:A .az .neq e 0=decide (e≠0):=av A ..;by_cases c3:e≠0
 .rw[if_neg (λhh=>c3 (he.2 hh))]at P;rw[aH c3]at f3;have:=B P W e l5 c3;clear B F;cbv;rw[f3];cbv;exact this
 have xj:e=0:=by omega
 rw[if_pos (he.1 xj)]at P;rw[ag c3]at f3;have Q:=T.sl;obtain⟨I,X⟩:∃I:Nat->Int->ab->Prop,∀w y h',I w y h'=(∃j,aM y j/\w=i-j/\j<=i/\Le W h'/\∀a x,a<j->f[a]? =some x->dX x=0):=⟨_,λ_ _ _=>rfl⟩;have sS:I i 0 W:=by rw[X];exact⟨0,⟨rfl⟩,rfl,by omega,Le.refl _,λa x ha=>by omega⟩
 cbv;rw[f3];cbv;refine aK.go (G:=Int) (λy=>[(42,.v (.int .i64 y))]) (λ_=>[(4,[.pointer (some ⟨p,0,none⟩)])]) (λw y h'=>I w y h') i 0 (by constructor<;>cbv) sS ?_
 intro w y N hI;rw[X]at hI;cbv;obtain⟨j,hy,hw,hj,L,bg⟩:=hI;have f4:A .az .lss y (A .nat H)=decide (j<i):=by rw[aJ A,hy.eq,hA.nat];exact decide_eq_decide.2 (by show(j:Int)<(H:Int)↔_;omega)
 rw[f4];by_cases c4:j<i
 .rw[aH c4];obtain⟨x,hx⟩:=di f j;have jB:gb.isSome=true:=Q.aR;have iy:=hy.ix (len:=H) (by omega);have aI:i-(j+1)<w:=by omega
  clear f4;cbv;refine⟨⟨jB,iy⟩,?_⟩;cbv;refine(Q.mono (L.t _)).load hx hy.eq (λcs M=>?_);have M:cs=[.int .i64 x.k,.int .i64 x.n,.string x.s]:=M;subst M;cbv;refine(Hs x N).mono (λv K hR=>?_);obtain⟨l7,ze,rfl,dJ⟩:=hR;have f5:A .az .neq ze 0=decide (ze≠0):=av A ..;by_cases c5:ze≠0
  .rw[if_neg (λhh=>by
    have:=GD.1 hh x (kF hx);have:=qH this;omega)]at P
   have:=B P K ze ((l5.trans L).trans l7) c5;rw[aH c5]at f5;clear B F X sS;cbv;rw[f5];cbv;exact this
  have HY:I (i-(j+1)) (A .aC .add .i64 y 1) K:=by
   rw[X];refine⟨j+1,hy.succ (A:=A),rfl,by omega,L.trans l7,λa x' ha yS=>?_⟩;by_cases e:a=j
   .subst e;rw[hx]at yS;cases yS;omega
   exact bg a x' (by omega) yS
  rw[ag c5]at f5;clear B F X sS;cbv;rw[f5];cbv;refine⟨_,A .aC .add .i64 y 1,aI,by constructor<;>cbv,HY⟩
 rw[ag c4];have MX:j=i:=by omega
 subst MX;rw[if_pos (GD.2 λx hx=>by
  obtain⟨a,ha⟩:=hJR.1 hx;exact aH (bg a x (by have:=(dB.1 ha).1;omega) ha))]at P
 have jY:=F f;clear B F X sS f4;cbv;refine(Dl (Q.mono (L.t _))).mono (λv K hR=>?_);obtain⟨l7,u,c',rfl,s7⟩:=hR;have:=jY K u H c' P ((l5.trans L).trans l7) s7.sl (by omega);clear jY;cbv;exact this
theorem xU{s:List Int}(q:Sl 3 dm h (.slice b n c) s)(W:n<=8)(B:∀h' a n' c',Le h h'->aT 5 bS h h' (.slice a n' c') (s.map cC).flatten->k (.slice a n' c') h'):
 Ct 210 [.slice none 0 0,.slice b n c] h k:=by
 have C:=q.len;obtain⟨J,X⟩:∃J:Nat->((Option Addr×Nat×Nat)×Int)->ab->Prop,∀w g h',J w g h'=(∃i,aM g.2 i/\w=n-i/\i<=n/\Le h h'/\aT 5 bS h h' (.slice g.1.1 g.1.2.1 g.1.2.2) ((s.take i).map cC).flatten/\((s.take i).map cC).flatten.length=8*i):=⟨_,λ_ _ _=>rfl⟩;have P:J n ((none,0,0),0) h:=by rw[X];exact⟨0,⟨rfl⟩,rfl,by omega,Le.refl _,aT.nil,rfl⟩
 refine cp cJj Tryz.func210 λA M=>?_;cbv;refine aK.go (G:=(Option Addr×Nat×Nat)×Int) (λg=>[(0,.v (.slice g.1.1 g.1.2.1 g.1.2.2)),(9,.v (.int .i64 g.2))]) (λ_=>[]) (λw g h'=>J w g h') n ((none,0,0),0) (by constructor<;>cbv) P ?_
 intro w g f I;rw[X]at I;cbv;obtain⟨⟨t,m,v⟩,z⟩:=g;obtain⟨i,d,Y,V,l,e,U⟩:=I;have d:aM z i:=d;have e:aT 5 bS h f (.slice t m v) ((s.take i).map cC).flatten:=e;have Z:=e.sl.len;have r:A .az .lss z (A .nat n)=decide (i<n):=by rw[aJ A,d.eq,M.nat];exact decide_eq_decide.2 (by show(i:Int)<(n:Int)↔_;omega)
 rw[r];by_cases j:i<n
 .rw[aH j];obtain⟨x,hx⟩:=di s i;have ix:=d.ix j;have N:b.isSome=true:=q.aR;have E:n-(i+1)<w:=by omega
  have F:∀a m' c' h',Le f h'->aT 5 bS f h' (.slice a m' c') (((s.take i).map cC).flatten++cC x)->J (n-(i+1)) ((a,m',c'),A .aC .add .i64 z 1) h':=λa m' c' h' O R=>by
   rw[X];have y:((s.take (i+1)).map cC).flatten=((s.take i).map cC).flatten++cC x:=by rw[xx,hx];simp
   exact⟨i+1,d.succ (A:=A),rfl,j,l.trans O,by rw[y];exact R.base l,by rw[y,dr,cR];omega⟩
  have S:m<=2^37:=by omega
  clear r X P;generalize ((s.take i).map cC).flatten=L at *;cbv;refine⟨⟨N,ix⟩,?_⟩;cbv;refine(q.mono (l.t _)).load hx d.eq (λcs u=>?_);have u:cs=[.int .i64 x]:=u;subst u;cbv;refine NS e.sl S x (λK o D p Q T=>?_);have H:=F o D p K Q T;clear F;cbv;refine⟨_,((o,D,p),A .aC .add .i64 z 1),E,by constructor<;>cbv,H⟩
 rw[ag j];rw[hO (by omega)]at e;have:=B f t m v l e;clear X P B;cbv;exact this
structure TO(c:cW):Prop where
 row:c.row.length<=2^16
 dQz:c.table.size<=2^40
 val:∀x∈c.row,x.s.size<=2^40
theorem Ss(id:Int)(s:Nat)(c:cW):(Nx id s c).length<=2^18:=by unfold Nx;have h:=mL c.table;have a:=mL (strOf (sN c.row));have b:=cR id;have d:=cR (s:Int);simp only[dr,hJB,hJE];omega
theorem aQi{e:Nat}(S:aM z e){t:ByteArray}{o:Int}{r:Row}(q:Sl 87 aZ h (.slice b n c) r)(B:TO ⟨t,o,r⟩)
 (i:∀h' g,Le h h'->hl g=aA (dy id e ⟨t,o,r⟩)->k (.agg (List.toArray (hl g))) h'):
 Ct 118 [.int .i64 id,.int .i64 z,.agg #[.string t,.int .i64 o,.slice b n c]] h k:=by
 have m:=q.len;have tV:r.length<=2^16:=B.row;have nS:t.size<=2^40:=B.dQz;have M:∀x∈r,x.s.size<=2^40:=B.val;have l:dy id e ⟨t,o,r⟩=vr (cC id++cC z++[u8 o]++nF t++nF (strOf (sN r))):=by rw[S.eq];rfl
 rw[l]at i;clear l B;refine cp cKz Tryz.func118 λA hA=>?_;cbv;intro w d L e1;have X:Le h d:=by rw[e1];exact Le.set L
 have q1:Sl 3 dm d (.slice (some ⟨w,0,none⟩) 2 2) [id,z]:=lN (s:=dm) rfl ((congrFun e1 w).trans ae) rfl rfl;clear e1;cbv;refine xU q1 (by decide) (λj E m2 I Y a=>?_);have G:=a.sl.len;have a:aT 5 bS d j (.slice E m2 I) (cC id++cC z):=by simpa using a
 have G:=a.sl.len;rw[dr,cR,cR]at G;cbv;refine tH a.sl (by omega) o (λh3 b3 m3 c3 l3 y=>?_);have V:=y.sl.len;rw[dr,dr,cR,cR,hJF]at V;cbv;refine Bp (e1:=0) y.sl (by omega) t nS (λh4 b4 m4 c4 l4 C=>?_);have T:=C.sl.len;have vY:=mL t;unfold nF at vY;rw[dr,dr,dr,cR,cR,hJF]at T;have U:=((X.trans Y).trans l3).trans l4;cbv;refine Tj (q.mono (U.t _)) (by omega) M (λh5 b5 m5 c5 p q5 N=>?_);have P:(strOf (sN r)).size<=2^40:=by show(sN r).toArray.size<=_;rw[List.size_toArray];omega
 have D:=C.sl.mono (p.t _);obtain⟨v,H⟩:∃v,v=strOf (sN r):=⟨_,rfl⟩;rw[<-H]at i P;cbv;refine uP q5.sl ?_;rw[<-H];cbv;refine Bp (e1:=0) D (by omega) v P (λK F u J l6 f=>?_);have f:Sl 5 bS K (.slice F u J) (cC id++cC z++[u8 o]++nF t++nF v):=f.sl;have Q:=f.len;have d:=mL t;have j:=mL v;simp only[dr,hJB,hJE,cR]at Q;have Z:u<=2^37:=by omega
 generalize cC id++cC z++[u8 o]++nF t++nF v=W at *;cbv;refine aQh f (by decide) Z (λO g l7 R=>?_);have:=i O g (((U.trans p).trans l6).trans l7) R;cbv;exact this
theorem uT{c:cW}(h:L[i]? =some c):(dg id L)[i]? =some (dy id i c):=by unfold dg;rw[List.getElem?_mapIdx,h];rfl
theorem uS(id:Int)(L:List cW):(dg id L).length=L.length:=by unfold dg;simp
theorem Cs{a:Type}{L:List a}{x:a}(h:L[i]? =some x):L.take (i+1)=L.take i++[x]:=by rw[xx,h];rfl
theorem aKO(q:Sl 228 bW h (.slice b n c) L)(hB:∀x∈L,TO x)(hn:n<=2^30)
 (N:∀h' g,Le h h'->hl g=aA (fN id L)->(fN id L).length=32->k (.agg (List.toArray (hl g))) h'):Ct 187 [.agg #[.int .i64 id,.slice b n c]] h k:=by
 have O:=q.len;have B:fN id L=eO (dg id L):=rfl;rw[B]at N;have Y:=uS id L;have u:∀ {i:Nat} {c:cW},L[i]? =some c->(dg id L)[i]? =some (dy id i c):=λh=>uT h;generalize dg id L=H at *;clear B;obtain⟨J,X⟩:∃J:Nat->((Option Addr×Nat×Nat)×Int)->ab->Prop,∀w g h',J w g h'=(∃i,aM g.2 i/\w=n-i/\i<=n/\Le h h'/\aT 104 iM h h' (.slice g.1.1 g.1.2.1 g.1.2.2) (H.take i)):=⟨_,λ_ _ _=>rfl⟩;have P:J n ((none,0,0),0) h:=by rw[X];exact⟨0,⟨rfl⟩,rfl,by omega,Le.refl _,aT.nil⟩
 refine cp cJB Tryz.func187 λA hA=>?_;cbv;refine aK.go (G:=(Option Addr×Nat×Nat)×Int) (λg=>[(3,.v (.slice g.1.1 g.1.2.1 g.1.2.2)),(9,.v (.int .i64 g.2))]) (λ_=>[(1,[.int .i64 id,.slice b n c]),(2,List.replicate 32 (.int .u8 0))]) (λw g h'=>J w g h') n ((none,0,0),0) (by constructor<;>cbv) P ?_
 intro w g I M;rw[X]at M;cbv;obtain⟨⟨gb,E,gc⟩,z⟩:=g;obtain⟨i,a,hw,hi,t,d⟩:=M;have a:aM z i:=a;have d:aT 104 iM h I (.slice gb E gc) (H.take i):=d;have pW:=d.sl.len;rw[dW]at pW;have D:A .az .lss z (A .nat n)=decide (i<n):=by rw[aJ A,a.eq,hA.nat];exact decide_eq_decide.2 (by show(i:Int)<(n:Int)↔_;omega)
 rw[D];by_cases e:i<n
 .rw[aH e];obtain⟨x,hx⟩:=di L i;have j:=hB x (kF hx);have ix:=a.ix e;have jB:b.isSome=true:=q.aR;have U:n-(i+1)<w:=by omega
  have S:=Cs (u hx);have F:∀f m' c' h',Le h h'->aT 104 iM h h' (.slice f m' c') (H.take i++[dy id i x])->J (n-(i+1)) ((f,m',c'),A .aC .add .i64 z 1) h':=λf m' c' h' l' q'=>by
   rw[X];exact⟨i+1,a.succ (A:=A),rfl,e,l',by rw[S];exact q'⟩
  have lS:E+1<=2^39:=by omega
  have oz:(dy id i x).length=32:=iW _;clear D X P S u;generalize H.take i=Lc at *;obtain⟨tb,op,r⟩:=x;cbv;refine⟨⟨jB,ix⟩,?_⟩;cbv;refine(q.mono (t.t _)).load hx a.eq (λcs W=>?_);obtain⟨rb,rn,rc,rfl,v⟩:=W;have v:Sl 87 aZ I (.slice rb rn rc) r:=v;cbv;refine aQi a v j (λo g l p=>?_);generalize dy id i ⟨tb,op,r⟩=RH at *;cbv;intro n4 K T m;have Q:Le o K:=by rw[m];exact Le.set T
  have q4:=bC (s:=iM) (cs:=hl g) ((congrFun m n4).trans ae) (IA (h:=K) p oz);clear m;cbv;refine(d.mono ((l.trans Q).t _)).append q4 (by decide) rfl (by decide) lS ((t.trans l).trans Q) (λR y C h5 V l5 t5 k5 q5=>?_);have Z:=F y R C h5 l5 q5;clear F k5;cbv;refine⟨_,((y,R,C),A .aC .add .i64 z 1),U,by constructor<;>cbv,Z⟩
 rw[ag e];rw[hO (by omega)]at d;clear X P u;cbv;refine Tl _ d.sl (mr _) (λo g l p tZ=>?_);have:=N o g (t.trans l) p tZ;cbv;exact this
theorem aKQ(q:Sl 228 bW h (.slice b n c) L)(N:∀x∈L,TO x)(Q:n<=2^30)
 (r:∀h' g,Le h h'->hl g=aA (eF id L)->k (.agg (List.toArray (hl g))) h'):Ct 121 [.agg #[.int .i64 id,.slice b n c]] h k:=by
 obtain⟨A,M⟩:=Ar.ex;have l:=q.len;have p:eF id L=vr (cC id++cC (A .nat n)++fN id L):=by rw[M.nat,l];rfl
 rw[p]at r;clear p;refine dH cKx A Tryz.func121 ?_;cbv;refine aKO q N Q (λG g t P tZ=>?_);generalize fN id L=R at *;cbv;intro j m E e;have T:Le G m:=by rw[e];exact Le.set E
 have C:m j=some (.cells (List.toArray (List.replicate 32 (.int .u8 0))) 104 (0,0)):=(congrFun e j).trans ae;have z2:=t.none E;clear e;cbv;refine iB C (mr _) (λo d=>?_);have D:=uK d (KA _ _);have U:Le h o:=(t.trans T).aE (bs:=[j]) (by simpa using z2) (by rw[d];exact Kp.set (by simp));clear d;cbv;intro w i H f;have u:Le o i:=by rw[f];exact Le.set H
 have Y:Sl 3 dm i (.slice (some ⟨w,0,none⟩) 2 2) [id,A .nat n]:=lN (s:=dm) rfl ((congrFun f w).trans ae) rfl rfl;clear f;cbv;refine xU Y (by decide) (λI y X z v a=>?_);have a:aT 5 bS i I (.slice y X z) (cC id++cC (A .nat n)):=by simpa using a
 have O:=a.sl.len;rw[dr,cR,cR]at O;have F:=v _ _ (u _ _ D);cbv;refine a.app (so F P tZ) (by decide) rfl (by decide) (by omega) v (λm6 b6 c6 h6 QU V t6 S Z=>?_);clear S;cbv;refine aQh Z.sl (by decide) (by omega) (λJ B W K=>?_);have:=r J B ((U.trans u).trans (V.trans W)) K;cbv;exact this
def Xt(n:Int)(p r:Nat->Int)(c:Int):List Value:=[.int .i64 n,.int .u8 (p 0),.int .u8 (p 1),.int .u8 (p 2),.int .u8 (p 3),.int .u8 (p 4),.int .u8 (p 5),.int .u8 (p 6),.int .u8 (p 7),.int .u8 (p 8),.int .u8 (p 9),.int .u8 (p 10),.int .u8 (p 11),.int .u8 (p 12),.int .u8 (p 13),.int .u8 (p 14),.int .u8 (p 15),.int .u8 (p 16),.int .u8 (p 17),.int .u8 (p 18),.int .u8 (p 19),.int .u8 (p 20),.int .u8 (p 21),.int .u8 (p 22),.int .u8 (p 23),.int .u8 (p 24),.int .u8 (p 25),.int .u8 (p 26),.int .u8 (p 27),.int .u8 (p 28),.int .u8 (p 29),.int .u8 (p 30),.int .u8 (p 31),.int .u8 (r 0),.int .u8 (r 1),.int .u8 (r 2),.int .u8 (r 3),.int .u8 (r 4),.int .u8 (r 5),.int .u8 (r 6),.int .u8 (r 7),.int .u8 (r 8),.int .u8 (r 9),.int .u8 (r 10),.int .u8 (r 11),.int .u8 (r 12),.int .u8 (r 13),.int .u8 (r 14),.int .u8 (r 15),.int .u8 (r 16),.int .u8 (r 17),.int .u8 (r 18),.int .u8 (r 19),.int .u8 (r 20),.int .u8 (r 21),.int .u8 (r 22),.int .u8 (r 23),.int .u8 (r 24),.int .u8 (r 25),.int .u8 (r 26),.int .u8 (r 27),.int .u8 (r 28),.int .u8 (r 29),.int .u8 (r 30),.int .u8 (r 31),.int .i64 c]
theorem Bi(n:Int)(p r:Nat->Int)(c:Int):Xt n p r c=.int .i64 n::(hl p++(hl r++[.int .i64 c])):=rfl
def Pw:Sh Kf where
 n:=66
 R _ cs b:=cs=.int .i64 b.n::(aA b.prev++(aA b.root++[.int .i64 b.count]))/\b.prev.length=32/\b.root.length=32
 len:=by rintro h cs b ⟨rfl,h1,h2⟩;simp[aA,h1,h2]
 one:=by
  rintro h cs b ⟨rfl,h1,h2⟩;have key:∀l m:List Value,gE l=true->gE m=true->gE (l++m)=true:=λl m a b=>by
   induction l with
   |nil=>exact b
   |cons x t ih=>
    unfold gE at a;split at a
    .rename_i hx;show gE (x::(t++m))=true;unfold gE;rw[hx];exact ih a
    cases a
  show gE (_::_)=true;unfold gE;exact key _ _ (fK _) (key _ _ (fK _) rfl)
 tys:=[]
 mono:=λ_ q=>q
theorem yM{T o:Nat}{c:List Value}{x:Bs}(q:h n=some (.cells (List.toArray c) T (0,0)))(b:(c.drop o).take 32=aA x)(hx:x.length=32):Sl T bS h (.slice (some ⟨n,o,none⟩) 32 32) x:=by
 refine⟨_,32,by rw[hx],by omega,by omega,.inr ⟨n,o,_,_,rfl,q,?_,λi y e=>?_⟩⟩
 .have:=congrArg List.length b;rw[dW,ec]at this;simp only[aA,hJT]at this;have f:bS.n=1:=rfl;rw[f];simp only[List.toArray,hx]at *;omega
 have g:i<x.length:=(dB.1 e).1;show((c.drop (o+i*1)).take 1)=[.int .u8 (y.toNat:Int)];have a:=congrArg (λl=>l[i]?) b;simp only[hU,nM,aA,qy,e]at a;rw[if_pos (by omega)]at a;apply rv;intro j;rw[hU,nM];by_cases d:j<1
 .have:j=0:=by omega
  subst this;rw[if_pos d,TG,hKz,a];rfl
 rw[if_neg d,qk (by simp;omega)]
theorem dQg{n I:Int}{gp gr:Nat->Int}{p r:Bs}(hp:hl gp=aA p)(hr:hl gr=aA r)(wY:p.length=32)(oz:r.length=32)
 (Z:∀h' g,Le h h'->hl g=aA (eK ⟨n,p,r,I⟩)->k (.agg (List.toArray (hl g))) h'):Ct 217 [.agg (List.toArray (Xt n gp gr I))] h k:=by
 have hH:eK ⟨n,p,r,I⟩=Mg ([cC n,p,r,cC I]:List Bs).flatten:=by unfold eK SB;simp
 have Oi:([cC n,p,r,cC I]:List Bs).flatten.length<=2^38:=by simp only[hKm,List.flatten_nil,dr,hJE,cR];omega
 rw[hH]at Z;clear hH;refine cp cJc Tryz.func217 λA hA=>?_;cbv;intro n1 Y eL e1;have la:Le h Y:=by rw[e1];exact Le.set eL
 have z:Y n1=some (.cells (List.toArray (Xt n gp gr I)) 344 (0,0)):=(congrFun e1 n1).trans ae;have sp:=yM (o:=1) (x:=p) z (by rw[Bi,<-hp];rfl) wY;have sr:=yM (o:=33) (x:=r) z (by rw[Bi,<-hr];rfl) oz;clear e1;cbv;rw[ao A];refine bc z ?_;cbv;rw[ao A,ao A,ao A];refine bc z ?_;cbv;refine⟨?_,?_⟩
 .skip;intro R u We y;have B:Le Y u:=by rw[y];exact Le.set We
  have qa:Sl 3 dm u (.slice (some ⟨R,0,none⟩) 1 1) [n]:=bC (s:=dm) ((congrFun y R).trans ae) rfl;clear y;cbv
  (try rw[ao A])
  refine bc (B _ _ z) ?_;cbv;refine⟨⟨_,rfl,rfl⟩,?_⟩;cbv;refine⟨?_,?_⟩
  .skip;refine xU qa (by decide) (λa bb M E f q=>?_);have q:aT 5 bS u a (.slice bb M E) (cC n):=by simpa using q
   cbv
   (try rw[ao A])
   refine bc ((B.trans f) _ _ z) ?_;cbv;refine⟨⟨_,rfl,rfl⟩,?_⟩;cbv;intro t b P e2;have j:Le a b:=by rw[e2];exact Le.set P
   have S:Sl 3 dm b (.slice (some ⟨t,0,none⟩) 1 1) [I]:=bC (s:=dm) ((congrFun e2 t).trans ae) rfl;clear e2;cbv;refine xU S (by decide) (λw D N F m d=>?_);have d:aT 5 bS b w (.slice D N F) (cC I):=by simpa using d
   cbv;intro O X C e;have l:Le w X:=by rw[e];exact Le.set C
   have G:=(congrFun e O).trans ae;have Q:=(((B.trans f).trans j).trans m).trans l;have T:=(((q.sl.mono (j.t _)).mono (m.t _)).mono (l.t _));have W:=(d.sl.mono (l.t _));have U:=sp.mono (Q.t _);have V:=sr.mono (Q.t _);clear e;cbv;refine JW (L:=[cC n,p,r,cC I]) (Eh (s:=yk) rfl G rfl (by show 4<=2^40;decide) (λi v x c hx=>?_) rfl) Oi (λH g K J=>?_)
   .have hi:i<4:=(dB.1 c).1;have:i=0\/i=1\/i=2\/i=3:=by omega
    rcases this with rfl|rfl|rfl|rfl<;>cases c<;>cases hx
    .exact dC T
    .exact dC U
    .exact dC V
    exact dC W
   have:=Z H g ((la.trans Q).trans K) J;cbv;exact this
  skip;intro t a P e1;have f:Le u a:=by rw[e1];exact Le.set P
  have S:Sl 3 dm a (.slice (some ⟨t,0,none⟩) 1 1) [I]:=bC (s:=dm) ((congrFun e1 t).trans ae) rfl;clear e1;cbv;refine xU (qa.mono (f.t _)) (by decide) (λb bb M E j q=>?_);have q:aT 5 bS a b (.slice bb M E) (cC n):=by simpa using q
  cbv;refine xU (S.mono (j.t _)) (by decide) (λw D N F m d=>?_);have d:aT 5 bS b w (.slice D N F) (cC I):=by simpa using d
  cbv;intro O X C e;have l:Le w X:=by rw[e];exact Le.set C
  have G:=(congrFun e O).trans ae;have Q:=(((B.trans f).trans j).trans m).trans l;have T:=((q.sl.mono (m.t _)).mono (l.t _));have W:=(d.sl.mono (l.t _));have U:=sp.mono (Q.t _);have V:=sr.mono (Q.t _);clear e;cbv;refine JW (L:=[cC n,p,r,cC I]) (Eh (s:=yk) rfl G rfl (by show 4<=2^40;decide) (λi v x c hx=>?_) rfl) Oi (λH g K J=>?_)
  .have hi:i<4:=(dB.1 c).1;have:i=0\/i=1\/i=2\/i=3:=by omega
   rcases this with rfl|rfl|rfl|rfl<;>cases c<;>cases hx
   .exact dC T
   .exact dC U
   .exact dC V
   exact dC W
  have:=Z H g ((la.trans Q).trans K) J;cbv;exact this
 skip;intro t u P y;have B:Le Y u:=by rw[y];exact Le.set P
 have S:Sl 3 dm u (.slice (some ⟨t,0,none⟩) 1 1) [I]:=bC (s:=dm) ((congrFun y t).trans ae) rfl;clear y;cbv
 (try rw[ao A])
 refine bc (B _ _ z) ?_;cbv;refine⟨⟨_,rfl,rfl⟩,?_⟩;cbv;intro R a We e1;have f:Le u a:=by rw[e1];exact Le.set We
 have qa:Sl 3 dm a (.slice (some ⟨R,0,none⟩) 1 1) [n]:=bC (s:=dm) ((congrFun e1 R).trans ae) rfl;clear e1;cbv;refine xU qa (by decide) (λb bb M E j q=>?_);have q:aT 5 bS a b (.slice bb M E) (cC n):=by simpa using q
 cbv;refine xU ((S.mono (f.t _)).mono (j.t _)) (by decide) (λw D N F m d=>?_);have d:aT 5 bS b w (.slice D N F) (cC I):=by simpa using d
 cbv;intro O X C e;have l:Le w X:=by rw[e];exact Le.set C
 have G:=(congrFun e O).trans ae;have Q:=(((B.trans f).trans j).trans m).trans l;have T:=((q.sl.mono (m.t _)).mono (l.t _));have W:=(d.sl.mono (l.t _));have U:=sp.mono (Q.t _);have V:=sr.mono (Q.t _);clear e;cbv;refine JW (L:=[cC n,p,r,cC I]) (Eh (s:=yk) rfl G rfl (by show 4<=2^40;decide) (λi v x c hx=>?_) rfl) Oi (λH g K J=>?_)
 .have hi:i<4:=(dB.1 c).1;have:i=0\/i=1\/i=2\/i=3:=by omega
  rcases this with rfl|rfl|rfl|rfl<;>cases c<;>cases hx
  .exact dC T
  .exact dC U
  .exact dC V
  exact dC W
 have:=Z H g ((la.trans Q).trans K) J;cbv;exact this
set_option maxHeartbeats 8000000
theorem te{x:W}(e:iK z x)(h0:0<n)(d:n<32)(b:m=(n:Int))(a:∀w,iK w (rr x n)->k (.int .u32 w) h):
 Ct 342 [.int .u32 z,.int .u64 m] h k:=by
 obtain⟨A,g⟩:=Ar.ex;obtain⟨s,B,f⟩:∃s,aM s (32-n)/\A .aC .sub .u64 32 m=s:=⟨_,⟨by
  rw[g.aC,b];have:∀m:Nat,m<32->Sx.aC .sub .u64 32 (m:Int)=((32-m:Nat):Int):=by decide
  exact this n d⟩,rfl⟩
 have c:0<=m/\0<=s:=by have:=B.eq;omega
 have r:=a _ ((e.shr (A:=A) (n:=m) ⟨b⟩ d).or (A:=A) (e.shl (A:=A) B (by omega)));clear a;refine dH cXv A Tryz.func342 ?_;cbv;refine⟨c.1,?_⟩;cbv;rw[f];refine⟨c.2,?_⟩;cbv;exact r
theorem UQ(a:∀g:Nat->Int,(∀i,i<64->iK (g i) (BJ.getD i 0))->k (.agg (List.toArray (wl g))) h):Ct 341 [] h k:=by
 have r:=a (λi=>((BJ.getD i 0).toNat:Int)) (λi c=>⟨rfl⟩);clear a;have e:wl (λi=>((BJ.getD i 0).toNat:Int))=[.int .u32 1116352408,.int .u32 1899447441,.int .u32 3049323471,.int .u32 3921009573,.int .u32 961987163,.int .u32 1508970993,.int .u32 2453635748,.int .u32 2870763221,.int .u32 3624381080,.int .u32 310598401,.int .u32 607225278,.int .u32 1426881987,.int .u32 1925078388,.int .u32 2162078206,.int .u32 2614888103,.int .u32 3248222580,.int .u32 3835390401,.int .u32 4022224774,.int .u32 264347078,.int .u32 604807628,.int .u32 770255983,.int .u32 1249150122,.int .u32 1555081692,.int .u32 1996064986,.int .u32 2554220882,.int .u32 2821834349,.int .u32 2952996808,.int .u32 3210313671,.int .u32 3336571891,.int .u32 3584528711,.int .u32 113926993,.int .u32 338241895,.int .u32 666307205,.int .u32 773529912,.int .u32 1294757372,.int .u32 1396182291,.int .u32 1695183700,.int .u32 1986661051,.int .u32 2177026350,.int .u32 2456956037,.int .u32 2730485921,.int .u32 2820302411,.int .u32 3259730800,.int .u32 3345764771,.int .u32 3516065817,.int .u32 3600352804,.int .u32 4094571909,.int .u32 275423344,.int .u32 430227734,.int .u32 506948616,.int .u32 659060556,.int .u32 883997877,.int .u32 958139571,.int .u32 1322822218,.int .u32 1537002063,.int .u32 1747873779,.int .u32 1955562222,.int .u32 2024104815,.int .u32 2227730452,.int .u32 2361852424,.int .u32 2428436474,.int .u32 2756734187,.int .u32 3204031479,.int .u32 3329325298]:=by kernel_rfl
 rw[e]at r;clear e;refine cp cXw Tryz.func341 λA b=>?_;cbv;exact r
structure WP(l:Bs)(i:Nat)(xs:List W):Prop where
 len:xs.length=64
 get:∀j,j<i->xs[j]? =some (wF l j)
theorem WP.set{l:Bs}{xs:List W}(q:WP l i xs)(h:i<64):WP l (i+1) (xs.set i (wF l i)):=by
 refine⟨by rw[ml];exact q.len,λj a=>?_⟩;rw[hJN];split
 .rename_i e;subst e;rw[if_pos (by rw[q.len];exact h)]
 rename_i e;exact q.get j (by omega)
theorem W8.add_comm(s t:W8):s.add t=t.add s:=by unfold W8.add;simp only[BitVec.add_comm]
def dQq(G:Nat->Int):List Value:=zu (G 0) (G 1) (G 2) (G 3) (G 4) (G 5) (G 6) (G 7)
theorem Us(G:Nat->Int)(h:i<8):(dQq G)[i]? =some (.int .u32 (G i)):=by
 have:i=0\/i=1\/i=2\/i=3\/i=4\/i=5\/i=6\/i=7:=by omega
 rcases this with rfl|rfl|rfl|rfl|rfl|rfl|rfl|rfl<;>rfl
theorem aQp{T:Nat}{s:W8}(o:cM T mA h n 8 s.l):∃G,h n=some (.cells (List.toArray (dQq G)) T (0,0))/\∀i,i<8->iK (G i) (s.l.getD i 0):=by
 obtain⟨a,b,c,d,e,f,g,i,l,k⟩:=OI o;refine⟨λj=>if j=0 then a else if j=1 then b else if j=2 then c else if j=3 then d else if j=4 then e else if j=5 then f else if j=6 then g else i,l,λj m=>?_⟩;have:j=0\/j=1\/j=2\/j=3\/j=4\/j=5\/j=6\/j=7:=by omega
 rcases this with rfl|rfl|rfl|rfl|rfl|rfl|rfl|rfl
 .exact k.a
 .exact k.b
 .exact k.c
 .exact k.d
 .exact k.e
 .exact k.f
 .exact k.g
 exact k.h
theorem iK.wB[e:aV A]{w:W}(d:iK u w)(f:j<4)(c:m=((24-8*j:Nat):Int)):A .conv .u8 (A .aC .shr .u32 u m)=((wB w j).toNat:Int):=by
 have b:=(d.shr (A:=A) (n:=m) (i:=24-8*j) ⟨c⟩ (by omega)).eq;rw[b];have a:=iA (A:=A) (h:=λ_=>none) (((w >>> (24-8*j)).toNat:Nat):Int);have a:[Value.int .u8 (A .conv .u8 (((w >>> (24-8*j)).toNat:Nat):Int))]=[.int .u8 ((u8 (((w >>> (24-8*j)).toNat:Nat):Int)).toNat:Int)]:=a;injection a with a _
 injection a with _ a
theorem iK.gXn[c:aV A]{w:W}(b:iK u w):A .conv .u8 u=((Go.S.wB w 3).toNat:Int):=by
 rw[b.eq];have a:=iA (A:=A) (h:=λ_=>none) ((w.toNat:Nat):Int);have a:[Value.int .u8 (A .conv .u8 ((w.toNat:Nat):Int))]=[.int .u8 ((u8 ((w.toNat:Nat):Int)).toNat:Int)]:=a;injection a with a _
 injection a with _ a
theorem Nj{T:Bs}(h:j<64)(a:p+64<=T.length):T[p+j]? =some (((T.drop p).take 64).getD j 0):=by rw[xa,hU,if_pos h,nM,zs (by omega:p+j<T.length)];rfl
structure RS(h h':ab)(n3 n4 n8:Nat)(kg:Nat->Int)(S:W8)(xs:List W)(tv:Value)(T:Bs):Prop where
 le:Le h h'
 g3:h' n3=some (.cells (List.toArray (wl kg)) 492 (0,0))
 o4:cM 484 mA h' n4 8 S.l
 o8:cM 492 mA h' n8 64 xs
 st:Sl 5 bS h' tv T
theorem RS.mono{u:ab}{b:Nat}{k:Nat->Int}{S:W8}{xs:List W}{t:Value}{T:Bs}(q:RS h h' n a b k S xs t T)(l:Le h' u):RS h u n a b k S xs t T:=
 ⟨q.le.trans l,l _ _ q.g3,q.o4.mono (l.t _),q.o8.mono (l.t _),q.st.mono (l.t _)⟩
theorem RS.w8{u:ab}{b:Nat}{k:Nat->Int}{S:W8}{xs ys:List W}{v:Value}{T:Bs}(q:RS h h' a b n k S xs v T)(z:h n=none)(d:a≠n)(c:b≠n)(kp:Kp [n] h' u)(t:∀tys,492∉tys->cf tys h' u)(o:cM 492 mA u n 64 ys):RS h u a b n k S ys v T:=
 ⟨q.le.aE (bs:=[n]) (by simpa using z) kp,kp _ _ q.g3 (by simpa using d),q.o4.kp kp (by simpa using Ne.symm c |>.symm) (λ_ _ _ _ m _=>by cases m),o,q.st.mono (t _ (by decide))⟩
theorem RS.fQG{u:ab}{b B:Nat}{k:Nat->Int}{S:W8}{xs:List W}{v:Value}{T:Bs}(q:RS h h' n a b k S xs v T)(z:h B=none)(d:n≠B)(c:a≠B)(e:b≠B)(kp:Kp [B] h' u)(t:cf [5] h' u):RS h u n a b k S xs v T:=
 ⟨q.le.aE (bs:=[B]) (by simpa using z) kp,kp _ _ q.g3 (by simpa using d),q.o4.kp kp (by simpa using c) (λ_ _ _ _ m _=>by cases m),q.o8.kp kp (by simpa using e) (λ_ _ _ _ m _=>by cases m),q.st.mono t⟩
theorem HE{S:W8}{T:Bs}(h:64<=T.length):gQ S T=gQ (BY S (T.take 64)) (T.drop 64):=by rw[gQ,dif_pos h]
theorem JU(S:W8):gQ S []=S:=by rw[gQ,dif_neg (by simp)]
theorem HJ{l:Bs}(q:Sl e1 bS h (.slice b n c) l)(hn:n<=2^38)
 (hk:∀h' g,Le h h'->hl g=aA (Mg l)->k (.agg (List.toArray (hl g))) h'):Ct 296 [.slice b n c] h k:=by
 obtain⟨A,hA⟩:=Ar.ex;have bd:=q.len;have QG:Mg l=My (gQ jl (Af l)):=rfl;rw[QG]at hk;clear QG;obtain⟨N,cq⟩:∃N,N=A .aC .mul .u64 (A .conv .u64 (A .nat n)) 8:=⟨_,rfl⟩;have hN:aM N (l.length*8):=⟨by
  rw[cq,hA.nat,hA.conv,hA.aC,<-bd];show IntKind.u64.wrap (IntKind.u64.wrap (n:Int)*8)=_;rw[ma,ma];omega⟩
 refine fG A [4] (ah cXY.aw cXY.aP) Tryz.func296 rfl (by kernel_rfl) ?_;cbv;refine UQ (λV eg=>?_);cbv;intro E h1 MQ e1;have l1:Le h h1:=by rw[e1];exact Le.set MQ
 have p:h1 E=some (.cells (List.toArray (List.replicate 64 (.int .u32 0))) 492 (0,0)):=(congrFun e1 E).trans ae;clear e1;cbv;refine iB p (mr _) (λh2 e2=>?_);have k2:Kp [E] h1 h2:=by rw[e2];exact Kp.set (by simp)
 have p:h2 E=some (.cells (List.toArray (wl V)) 492 (0,0)):=by rw[e2,ae];exact congrArg (λc=>some (Obj.cells (List.toArray c) 492 (0,0))) (DU _ V)
 have l2:=l1.aE (bs:=[E]) (by simpa using MQ) k2;clear e2 k2 l1;cbv;intro u h3 HS e3;have YT:Le h2 h3:=by rw[e3];exact Le.set HS
 have B:h3 u=some (.cells (List.toArray (List.replicate 8 (.int .u32 0))) 484 (0,0)):=(congrFun e3 u).trans ae;have cv:E≠u:=jL p HS;have z3:=MQ;have z4:=l2.none HS;have p:=YT _ _ p;have l3:=l2.trans YT;clear e3 YT;cbv;refine iB B (mr _) (λh4 e4=>?_);have k4:Kp [u] h3 h4:=by rw[e4];exact Kp.set (by simp)
 have B:h4 u=some (.cells (List.toArray (zu 0x6a09e667 0xbb67ae85 0x3c6ef372 0xa54ff53a 0x510e527f 0x9b05688c 0x1f83d9ab 0x5be0cd19)) 484 (0,0)):=(congrFun e4 u).trans ae;have h8:OA 0x6a09e667 0xbb67ae85 0x3c6ef372 0xa54ff53a 0x510e527f 0x9b05688c 0x1f83d9ab 0x5be0cd19 jl:=⟨⟨rfl⟩,⟨rfl⟩,⟨rfl⟩,⟨rfl⟩,⟨rfl⟩,⟨rfl⟩,⟨rfl⟩,⟨rfl⟩⟩;have p:=k4 _ _ p (by simpa using cv);have l4:=l3.aE (bs:=[u]) (by simpa using z4) k4;clear e4 k4 l3 l2;cbv;have H:=zx B h8;clear B h8;obtain⟨C,eZ⟩:∃C:(Option Addr×Nat×Nat)->ab->Prop,∀g h',C g h'=(Le h h'/\h' E=some (.cells (List.toArray (wl V)) 492 (0,0))/\cM 484 mA h' u 8 jl.l/\aT 5 bS h h' (.slice g.1 g.2.1 g.2.2) l):=⟨_,λ_ _=>rfl⟩;refine jA.go (G:=Option Addr×Nat×Nat) (λg=>[(5,.v (.slice g.1 g.2.1 g.2.2))]) (λ_=>[(2,List.replicate 32 (.int .u8 0))]) C ?_ ?_
 .cbv;intro n5 h5 yB e5;have bh:Le h4 h5:=by rw[e5];exact Le.set yB
  have p:=bh _ _ p;have H:=H.mono (bh.t _);have Y:=l4.trans bh;clear e5;have HZ:∀b1,n=0->C (b1,0,0) h5:=λb1 e0=>by
   rw[eZ];have:l=[]:=ee (by omega);subst this;exact⟨Y,p,H,aT.nil⟩
  cbv;refine jx (q.mono (Y.t _)) rfl (by decide) (λe0=>?_) (λnb cap h6 dV kj l6 o6=>?_)
  .have hC:=HZ (some ⟨n5,0,none⟩) e0;clear HZ eZ;cbv;refine⟨(some ⟨n5,0,none⟩,0,0),by constructor<;>cbv,hC⟩
  have hC:C (some ⟨nb,0,none⟩,n,cap) h6:=by rw[eZ];exact⟨Y.trans l6,l6 _ _ p,H.mono (l6.t _),o6.buf (Y.none dV) bd⟩
  clear HZ eZ;cbv;refine⟨(some ⟨nb,0,none⟩,n,cap),by constructor<;>cbv,hC⟩
 intro g h6 hC;rw[eZ]at hC;obtain⟨O,r,U⟩:=g;obtain⟨l6,p,H,q6⟩:=hC;have q6:aT 5 bS h h6 (.slice O r U) l:=q6;have pW:=q6.sl.len;clear eZ C;cbv;intro n7 h7 BR e7;have l7:Le h6 h7:=by rw[e7];exact Le.set BR
 have q7:=bC (s:=bS) (x:=128) ((congrFun e7 n7).trans ae) rfl;clear e7;cbv;refine(q6.mono (l7.t _)).app q7 (by decide) rfl (by decide) (by omega) (l6.trans l7) (λm8 b8 c8 h8 fg l8 t8 k8 q8=>?_);have p:=k8 _ _ (l7 _ _ p) (.inr (.inr (λc fr e=>by cases e)));have H:=H.mono ((l7.t _).trans (t8 _ (by decide)));obtain⟨J,aX⟩:∃J:Nat->(Option Addr×Nat×Nat)->ab->Prop,∀w g h',J w g h'=(∃j,w=ki l.length-j/\j<=ki l.length/\Le h h'/\h' E=some (.cells (List.toArray (wl V)) 492 (0,0))/\cM 484 mA h' u 8 jl.l/\aT 5 bS h h' (.slice g.1 g.2.1 g.2.2) (l++[128]++List.replicate j 0)):=⟨_,λ_ _ _=>rfl⟩;have eP:J (ki l.length) (b8,m8,c8) h8:=by rw[aX];exact⟨0,rfl,qT _,l8,p,H,by simpa using q8⟩
 clear k8 q8 q7 q6 H p t8 l8 l7 l6;cbv;refine aK.go (G:=Option Addr×Nat×Nat) (λg=>[(5,.v (.slice g.1 g.2.1 g.2.2))]) (λ_=>[(2,List.replicate 32 (.int .u8 0))]) (λw g h'=>J w g h') (ki l.length) (b8,m8,c8) (by constructor<;>cbv) eP ?_
 intro w g h3 D;rw[aX]at D;cbv;obtain⟨O,r,U⟩:=g;obtain⟨j,hw,hj,l3,p,H,q3⟩:=D;have q3:aT 5 bS h h3 (.slice O r U) (l++[128]++List.replicate j 0):=q3;have pW:r=l.length+1+j:=by have:=q3.sl.len;simp at this;omega
 have fp:ki l.length<64:=hKv _ (by decide);have f1:A .az .neq (A .aC .rem .i64 (A .nat r) 64) 56=decide (j<ki l.length):=by rw[av A,hA.aC,hA.nat];show decide (((r:Int)).tmod 64≠56)=_;rw[hKp (by omega)];refine decide_eq_decide.2 ?_;unfold ki at *;omega
 have bF:∀h' b' m' c',j<ki l.length->Le h h'->h' E=some (.cells (List.toArray (wl V)) 492 (0,0))->cM 484 mA h' u 8 jl.l->aT 5 bS h h' (.slice b' m' c') (l++[128]++List.replicate j 0++[0])->J (ki l.length-(j+1)) (b',m',c') h':=λh' b' m' c' aI l' g' o' q'=>by
  rw[aX];refine⟨j+1,rfl,aI,l',g',o',?_⟩;rw[ym,<-List.replicate_succ']at q';exact q'
 refine⟨by decide,?_⟩;cbv;rw[f1];by_cases hc:j<ki l.length
 .rw[aH hc];have aI:ki l.length-(j+1)<w:=by omega
  clear f1 aX eP;generalize l++[128]++List.replicate j 0=cur at *;cbv;intro n9 h4 BQ e4;have l4:Le h3 h4:=by rw[e4];exact Le.set BQ
  have q4:=bC (s:=bS) (x:=0) ((congrFun e4 n9).trans ae) rfl;clear e4;cbv;refine(q3.mono (l4.t _)).app q4 (by decide) rfl (by decide) (by omega) (l3.trans l4) (λm5 b5 c5 h5 Of Y t5 k5 q5=>?_);have dt:=bF h5 b5 m5 c5 hc Y (k5 _ _ (l4 _ _ p) (.inr (.inr (λc fr e=>by cases e)))) (H.mono ((l4.t _).trans (t5 _ (by decide)))) q5;clear k5 bF;cbv;refine⟨_,(b5,m5,c5),aI,by constructor<;>cbv,dt⟩
 rw[ag hc];have hj:j=ki l.length:=by omega
 subst hj;clear f1 bF;obtain⟨P,hP⟩:∃P,P=l++[128]++List.replicate (ki l.length) 0:=⟨_,rfl⟩;have aD:Af l=P++Hx l.length:=by rw[hP];rfl
 have HW:P.length<=2^38+100:=by rw[hP];simp;omega
 rw[<-hP]at q3;have dx:=Gl l;have dJ:(Af l).length<=2^38+200:=by rw[aD,dr,sL];omega
 rw[aD]at hk dx dJ;obtain⟨I,X⟩:∃I:Nat->(Int×Option Addr×Nat×Nat)->ab->Prop,∀w g h',I w g h'=(∃i:Nat,g.1=7-(i:Int)/\w=8-i/\i<=8/\Le h h'/\h' E=some (.cells (List.toArray (wl V)) 492 (0,0))/\cM 484 mA h' u 8 jl.l/\aT 5 bS h h' (.slice g.2.1 g.2.2.1 g.2.2.2) (P++(Hx l.length).take i)):=⟨_,λ_ _ _=>rfl⟩;have sS:I 8 (7,O,r,U) h3:=by rw[X];exact⟨0,rfl,rfl,by omega,l3,p,H,by simpa using q3⟩
 clear aX eP hP aD q3 H p;cbv;rw[<-cq];refine aK.go (G:=Int×Option Addr×Nat×Nat) (λg=>[(7,.v (.int .i64 g.1)),(5,.v (.slice g.2.1 g.2.2.1 g.2.2.2))]) (λ_=>[(2,List.replicate 32 (.int .u8 0))]) (λw g h'=>I w g h') 8 (7,O,r,U) (by constructor<;>cbv) sS ?_
 intro w g h4 D;rw[X]at D;cbv;obtain⟨z,O,r,U⟩:=g;obtain⟨i,hz,hw,hi,l4,p,H,q4⟩:=D;have hz:z=7-(i:Int):=hz;have q4:aT 5 bS h h4 (.slice O r U) (P++(Hx l.length).take i):=q4;have pW:=q4.sl.len;rw[dr,dW,sL]at pW;have f1:A .az .geq z 0=decide (i<8):=by rw[cZ A];exact decide_eq_decide.2 (by omega)
 rw[f1];by_cases hc:i<8
 .rw[aH hc];obtain⟨sh,cd⟩:∃sh,sh=A .aC .mul .u64 8 (A .conv .u64 z):=⟨_,rfl⟩;have dk:sh=((56-8*i:Nat):Int):=by rw[cd,hA.conv,hA.aC];show IntKind.u64.wrap (8*IntKind.u64.wrap z)=_;rw[ma,ma,hz];omega
  have ea:0<=sh:=by omega
  have hR:bS.R h4 [.int .u8 (A .conv .u8 (A .aC .shr .u64 N sh))] (Ul l.length i):=by
   have h3:A .aC .shr .u64 N ((56-8*i:Nat):Int)=((l.length*8 % 2^64 / 2^(56-8*i):Nat):Int):=by rw[hA.aC,hN.eq];show((l.length*8:Nat):Int).fdiv (2^(min ((56-8*i:Nat):Int).toNat 64))=_;rw[show min ((56-8*i:Nat):Int).toNat 64=56-8*i by omega,hJU _ (Int.le_of_lt (Int.pow_pos (by decide))),Nat.mod_eq_of_lt (by omega)];norm_cast
   rw[dk,h3];exact iA _
  have mE:(Hx l.length).take (i+1)=(Hx l.length).take i++[Ul l.length i]:=oR (Ul l.length) hc;have pY:∀h' m' b' c',Le h h'->h' E=some (.cells (List.toArray (wl V)) 492 (0,0))->cM 484 mA h' u 8 jl.l->aT 5 bS h h' (.slice b' m' c') (P++(Hx l.length).take i++[Ul l.length i])->I (8-(i+1)) (A .aC .sub .i64 z 1,b',m',c') h':=λh' m' b' c' l' g' o' q'=>by
   rw[X];exact⟨i+1,by
    show A .aC .sub .i64 z 1=_;rw[hA.aC];show IntKind.i64.wrap (z-1)=7-((i+1:Nat):Int);rw[IntWalk.i64_in _ (by omega)];omega,rfl,hc,l',g',o',by rw[mE,<-ym];exact q'⟩
  have aI:8-(i+1)<w:=by omega
  have Z:r+1<=2^39:=by omega
  clear f1 X sS mE pW;generalize Ul l.length i=y at *;generalize P++(Hx l.length).take i=cur at *;cbv;rw[<-cd];refine⟨ea,?_⟩;cbv;intro n9 h5 BQ e5;have Y:Le h4 h5:=by rw[e5];exact Le.set BQ
  have q5:=bC (s:=bS) ((congrFun e5 n9).trans ae) hR;clear e5;cbv;refine(q4.mono (Y.t _)).app q5 (by decide) rfl (by decide) Z (l4.trans Y) (λm6 b6 c6 h6 QU l6 t6 k6 q6=>?_);have HY:=pY h6 m6 b6 c6 l6 (k6 _ _ (Y _ _ p) (.inr (.inr (λc fr e=>by cases e)))) (H.mono ((Y.t _).trans (t6 _ (by decide)))) q6;clear pY k6;cbv;refine⟨8-(i+1),(_,b6,m6,c6),aI,by constructor<;>cbv,HY⟩
 rw[ag hc];have hi:i=8:=by omega
 rw[hO (by rw[sL];omega)]at q4;generalize P++Hx l.length=T at *;have q4:=q4.sl;have vY:=q4.len;clear X sS f1;cbv;intro n8 h5 Eo e5;have Y:Le h4 h5:=by rw[e5];exact Le.set Eo
 have cw:E≠n8:=jL p Eo;have bj:u≠n8:=λe=>by rw[<-e]at Eo;exact H.has Eo
 have z8:=l4.none Eo;have o8:cM 492 mA h5 n8 64 (List.replicate 64 (0:W)):=CI (g:=λ_=>0) (f:=λ_=>0) ((congrFun e5 n8).trans ae) (λ_ _=>⟨rfl⟩);have r5:RS h h5 E u n8 V jl (List.replicate 64 (0:W)) (.slice O r U) T:=⟨l4.trans Y,Y _ _ p,H.mono (Y.t _),o8,q4.mono (Y.t _)⟩;have fs:r<=2^38+200:=by omega
 have eE:0<r->O.isSome=true:=λhh=>q4.aR hh;clear e5 o8 q4 H p Y l4;obtain⟨J,aX⟩:∃J:Nat->Int->ab->Prop,∀w z h',J w z h'=(∃i S xs,aM z (64*i)/\64*i<=T.length/\w=T.length-64*i/\xs.length=64/\RS h h' E u n8 V S xs (.slice O r U) T/\gQ S (T.drop (64*i))=gQ jl T):=⟨_,λ_ _ _=>rfl⟩;have eP:J T.length 0 h5:=by rw[aX];exact⟨0,_,_,⟨rfl⟩,by omega,rfl,rfl,r5,rfl⟩
 generalize gQ jl T=F at *;clear r5;cbv;refine aK.go (G:=Int) (λz=>[(9,.v (.int .i64 z))]) (λ_=>[(2,List.replicate 32 (.int .u8 0))]) (λw z h'=>J w z h') T.length 0 (by constructor<;>cbv) eP ?_
 intro w z h6 D;rw[aX]at D;cbv;obtain⟨i,S,xs,hz,fx,hw,MI,r6,hF⟩:=D;have f1:A .az .lss z (A .nat r)=decide (64*i<T.length):=by rw[aJ A,hz.eq,hA.nat];exact decide_eq_decide.2 (by show((64*i:Nat):Int)<(r:Int)↔_;omega)
 rw[f1];by_cases hc:64*i<T.length
 .rw[aH hc];have eQ:64*i+64<=T.length:=by omega
  obtain⟨P,hP⟩:∃P,P=(T.drop (64*i)).take 64:=⟨_,rfl⟩;rw[HE (by rw[ec];omega),<-hP,hKa]at hF;have lr:∀j,j<64->T[64*i+j]? =some (P.getD j 0):=λj hj=>by rw[hP];exact Nj hj eQ
  have aI:T.length-64*(i+1)<w:=by omega
  have jB:=eE (by omega);have bF:∀h' ys,ys.length=64->RS h h' E u n8 V (BY S P) ys (.slice O r U) T->J (T.length-64*(i+1)) (A .aC .add .i64 z 64) h':=λh' ys o r'=>by
   rw[aX];refine⟨i+1,_,ys,?_,by omega,rfl,o,r',hF⟩;have:=hz.add (A:=A) (w:=64) (j:=64) ⟨rfl⟩ (by omega);have e:64*i+64=64*(i+1):=by omega
   rw[e]at this;exact this
  clear aX eP f1 hF hP;obtain⟨K,WC⟩:∃K:Nat->Nat->Int->ab->Prop,∀m w y h',K m w y h'=(∃j ys,aM y j/\w=m-j/\j<=m/\(m=64->16<=j)/\WP P j ys/\RS h h' E u n8 V S ys (.slice O r U) T):=⟨_,λ_ _ _ _=>rfl⟩;have Lj:K 16 16 0 h6:=by rw[WC];exact⟨0,xs,⟨rfl⟩,rfl,by omega,by omega,⟨MI,λj hj=>by omega⟩,r6⟩
  clear r6;cbv;refine aK.go (G:=Int) (λy=>[(10,.v (.int .i64 y))]) (λ_=>[(2,List.replicate 32 (.int .u8 0))]) (λw y h'=>K 16 w y h') 16 0 (by constructor<;>cbv) Lj ?_
  intro w2 y h7 D;rw[WC]at D;cbv;obtain⟨j,ys,o,Em,hj,-,KP,r7⟩:=D;have f2:A .az .lss y 16=decide (j<16):=by rw[aJ A,o.eq];exact decide_eq_decide.2 (by omega)
  rw[f2];by_cases ke:j<16
  .rw[aH ke];have m0:aM (A .aC .mul .i64 4 y) (4*j):=⟨by
    rw[hA.aC,o.eq];show IntKind.i64.wrap (4*(j:Int))=_;rw[IntWalk.i64_in _ (by omega)];omega⟩
   have p0:=hz.add (A:=A) m0 (by omega);have p1:=p0.succ (A:=A);have p2:=p0.add (A:=A) (w:=2) (j:=2) ⟨rfl⟩ (by omega);have p3:=p0.add (A:=A) (w:=3) (j:=3) ⟨rfl⟩ (by omega);have c0:=p0.ix (len:=r) (by omega);have c1:=p1.ix (len:=r) (by omega);have c2:=p2.ix (len:=r) (by omega);have c3:=p3.ix (len:=r) (by omega);have R:=o.ix (len:=64) (by omega);have t0:=lr (4*j) (by omega);have t1:=lr (4*j+1) (by omega);have t2:=lr (4*j+2) (by omega);have t3:=lr (4*j+3) (by omega);have wE:wF P j=bw P (4*j) <<< 24|||bw P (4*j+1) <<< 16|||bw P (4*j+2) <<< 8|||bw P (4*j+3):=by rw[wF,if_pos ke];rfl
   obtain⟨y0,ch⟩:∃v:Int,v=((P.getD (4*j) 0).toNat:Int):=⟨_,rfl⟩;obtain⟨y1,cg⟩:∃v:Int,v=((P.getD (4*j+1) 0).toNat:Int):=⟨_,rfl⟩;obtain⟨y2,GH⟩:∃v:Int,v=((P.getD (4*j+2) 0).toNat:Int):=⟨_,rfl⟩;obtain⟨y3,VN⟩:∃v:Int,v=((P.getD (4*j+3) 0).toNat:Int):=⟨_,rfl⟩;have hR:iK (A .aC .or .u32 (A .aC .or .u32 (A .aC .or .u32 (A .aC .shl .u32 (A .conv .u32 y0) 24) (A .aC .shl .u32 (A .conv .u32 y1) 16)) (A .aC .shl .u32 (A .conv .u32 y2) 8)) (A .conv .u32 y3)) (wF P j):=by rw[wE];exact((((iK.YM (A:=A) ch).shl (A:=A) (n:=24) (i:=24) ⟨rfl⟩ (by decide)).or (A:=A) ((iK.YM (A:=A) cg).shl (A:=A) (n:=16) (i:=16) ⟨rfl⟩ (by decide))).or (A:=A) ((iK.YM (A:=A) GH).shl (A:=A) (n:=8) (i:=8) ⟨rfl⟩ (by decide))).or (A:=A) (iK.YM (A:=A) VN)
   have EB:∀h',RS h h' E u n8 V S (ys.set j (wF P j)) (.slice O r U) T->K 16 (16-(j+1)) (A .aC .add .i64 y 1) h':=λh' r'=>by
    rw[WC];exact⟨j+1,_,o.succ (A:=A),rfl,ke,by omega,KP.set (by omega),r'⟩
   have tX:16-(j+1)<w2:=by omega
   have rf:j<ys.length:=by rw[KP.len];omega
   clear WC Lj f2 wE;cbv;refine⟨⟨jB,c0⟩,?_⟩;cbv;refine r7.st.load t0 p0.eq (λcs M=>?_);have M:cs=[.int .u8 y0]:=by rw[ch];exact M
   subst M;cbv;refine⟨by decide,?_⟩;cbv;refine⟨⟨jB,c1⟩,?_⟩;cbv;refine r7.st.load (i:=64*i+4*j+1) (by rw[hKi];exact t1) p1.eq (λcs M=>?_);have M:cs=[.int .u8 y1]:=by rw[cg];exact M
   subst M;cbv;refine⟨by decide,?_⟩;cbv;refine⟨⟨jB,c2⟩,?_⟩;cbv;refine r7.st.load (i:=64*i+4*j+2) (by rw[hKi];exact t2) p2.eq (λcs M=>?_);have M:cs=[.int .u8 y2]:=by rw[GH];exact M
   subst M;cbv;refine⟨by decide,?_⟩;cbv;refine⟨⟨jB,c3⟩,?_⟩;cbv;refine r7.st.load (i:=64*i+4*j+3) (by rw[hKi];exact t3) p3.eq (λcs M=>?_);have M:cs=[.int .u8 y3]:=by rw[VN];exact M
   subst M;cbv;refine⟨R,?_⟩;cbv;refine r7.o8.setAt (s:=mA) (by simp[mA]) rf o.eq rfl (x:=wF P j) ⟨_,rfl,hR⟩ (λh8 k8 t8 o8=>?_);have Fl:=EB h8 (r7.w8 z8 cw bj k8 t8 o8);clear EB k8 t8;cbv;refine⟨16-(j+1),A .aC .add .i64 y 1,tX,by constructor<;>cbv,Fl⟩
  rw[ag ke];have eh:j=16:=by omega
  subst eh;have EB:K 64 48 16 h7:=by rw[WC];exact⟨16,ys,⟨rfl⟩,rfl,by omega,λ_=>by omega,KP,r7⟩
  clear f2 r7 Lj;cbv;refine aK.go (G:=Int) (λy=>[(12,.v (.int .i64 y))]) (λ_=>[(2,List.replicate 32 (.int .u8 0))]) (λw y h'=>K 64 w y h') 48 16 (by constructor<;>cbv) EB ?_
  intro w3 y h8 D;rw[WC]at D;cbv;obtain⟨j,ys,o,fi,hj,ct,KP,r8⟩:=D;have ct:=ct rfl;have f3:A .az .lss y 64=decide (j<64):=by rw[aJ A,o.eq];exact decide_eq_decide.2 (by omega)
  obtain⟨g,Z,HV⟩:=Cg r8.o8 KP.len;rw[f3];by_cases Bz:j<64
  .rw[aH Bz];have cK:=o.sub (A:=A) (w:=15) (j:=15) ⟨rfl⟩ (by omega) (by omega);have i2:=o.sub (A:=A) (w:=2) (j:=2) ⟨rfl⟩ (by omega) (by omega);have ai:=o.sub (A:=A) (w:=16) (j:=16) ⟨rfl⟩ (by omega) (by omega);have i7:=o.sub (A:=A) (w:=7) (j:=7) ⟨rfl⟩ (by omega) (by omega);have Nk:=HV _ _ (KP.get (j-15) (by omega));have g2:=HV _ _ (KP.get (j-2) (by omega));have en:=HV _ _ (KP.get (j-16) (by omega));have g7:=HV _ _ (KP.get (j-7) (by omega));have eJ:=cK.ix (len:=64) (by omega);have c2:=i2.ix (len:=64) (by omega);have eI:=ai.ix (len:=64) (by omega);have c7:=i7.ix (len:=64) (by omega);have R:=o.ix (len:=64) (by omega);have wE:wF P j=eQg (wF P (j-2))+wF P (j-7)+eQh (wF P (j-15))+wF P (j-16):=by rw[wF,if_neg (by omega),if_pos (by omega)];ac_rfl
   have Fl:∀h',RS h h' E u n8 V S (ys.set j (wF P j)) (.slice O r U) T->K 64 (64-(j+1)) (A .aC .add .i64 y 1) h':=λh' r'=>by
    rw[WC];exact⟨j+1,_,o.succ (A:=A),rfl,Bz,by omega,KP.set Bz,r'⟩
   have dd:64-(j+1)<w3:=by omega
   have rf:j<ys.length:=by rw[KP.len];omega
   have eL:j-15<64:=by omega
   have b2:j-2<64:=by omega
   have SM:j-16<64:=by omega
   have b7:j-7<64:=by omega
   clear f3 WC EB HV bF;cbv;repeat (first|(refine lF Z cK eL ?_;cbv)|(refine lF Z i2 b2 ?_;cbv)|(refine lF Z i7 b7 ?_;cbv)|(refine lF Z ai SM ?_;cbv)|(refine⟨eJ,?_⟩;cbv)|(refine⟨c2,?_⟩;cbv)|(refine⟨c7,?_⟩;cbv)|(refine⟨eI,?_⟩;cbv)|(refine⟨by decide,?_⟩;cbv))
   refine te g2 (n:=17) (by decide) (by decide) rfl (λw1 ML=>?_);cbv;repeat (first|(refine lF Z i7 b7 ?_;cbv)|(refine lF Z ai SM ?_;cbv)|(refine⟨⟨_,rfl,rfl⟩,?_⟩;cbv))
   refine te g2 (n:=19) (by decide) (by decide) rfl (λfm ev=>?_);cbv;repeat (first|(refine lF Z i7 b7 ?_;cbv)|(refine lF Z ai SM ?_;cbv)|(refine⟨⟨_,rfl,rfl⟩,?_⟩;cbv))
   refine te Nk (n:=7) (by decide) (by decide) rfl (λfz eu=>?_);cbv;repeat (first|(refine lF Z i7 b7 ?_;cbv)|(refine lF Z ai SM ?_;cbv)|(refine⟨⟨_,rfl,rfl⟩,?_⟩;cbv))
   refine te Nk (n:=18) (by decide) (by decide) rfl (λw4 cy=>?_);cbv;repeat (first|(refine lF Z i7 b7 ?_;cbv)|(refine lF Z ai SM ?_;cbv)|(refine⟨⟨_,rfl,rfl⟩,?_⟩;cbv))
   have hR:=(((((ML.xor (A:=A) ev).xor (A:=A) (g2.shr (A:=A) (n:=10) (i:=10) ⟨rfl⟩ (by decide)))).add (A:=A) g7).add (A:=A) ((eu.xor (A:=A) cy).xor (A:=A) (Nk.shr (A:=A) (n:=3) (i:=3) ⟨rfl⟩ (by decide)))).add (A:=A) en;refine⟨R,?_⟩;cbv;refine r8.o8.setAt (s:=mA) (by simp[mA]) rf o.eq rfl (x:=wF P j) ⟨_,rfl,by rw[wE];exact hR⟩ (λh9 k9 t9 o9=>?_);have Jz:=Fl h9 (r8.w8 z8 cw bj k9 t9 o9);clear Fl k9 t9;cbv;refine⟨64-(j+1),A .aC .add .i64 y 1,dd,by constructor<;>cbv,Jz⟩
  have Rb:j=64:=by omega
  subst Rb;rw[ag Bz];have HV:∀j,j<64->iK (g j) (wF P j):=λj hj=>HV j _ (KP.get j hj);have dp:=KP.len;obtain⟨a0,a1,a2,a3,a4,a5,a6,a7,B,w8⟩:=OI r8.o4;clear f3 WC EB KP;cbv;refine bc B ?_;cbv;intro BH h9 QR e9;have l9:Le h8 h9:=by rw[e9];exact Le.set QR
  have Nk:h9 BH=some (.cells (List.toArray (List.replicate 8 (.int .u32 0))) 484 (0,0)):=(congrFun e9 BH).trans ae;have d3:E≠BH:=jL r8.g3 QR;have d4:u≠BH:=jL B QR;have d8:n8≠BH:=jL Z QR;have cE:=r8.le.none QR;have r9:=r8.mono l9;have ck:=l9 _ _ Z;clear e9 B Z;cbv;refine iB Nk (mr _) (λlI sV=>?_);have NY:Kp [BH] h9 lI:=by rw[sV];exact Kp.set (by simp)
  have cI:=r9.fQG cE d3 d4 d8 NY (by rw[sV];exact cf.set Nk (by decide));have Nk:lI BH=some (.cells (List.toArray (zu a0 a1 a2 a3 a4 a5 a6 a7)) 484 (0,0)):=by rw[sV,ae];rfl
  have Zx:=NY _ _ ck (by simpa using d8);obtain⟨Q,ak⟩:∃Q:Nat->Int->ab->Prop,∀w y h',Q w y h'=(∃j b0 b1 b2 b3 b4 b5 b6 b7,aM y j/\w=64-j/\j<=64/\RS h h' E u n8 V S ys (.slice O r U) T/\h' n8=some (.cells (List.toArray (wl g)) 492 (0,0))/\h' BH=some (.cells (List.toArray (zu b0 b1 b2 b3 b4 b5 b6 b7)) 484 (0,0))/\OA b0 b1 b2 b3 b4 b5 b6 b7 (tg P S j)):=⟨_,λ_ _ _=>rfl⟩;have bk:Q 64 0 lI:=by rw[ak];exact⟨0,_,_,_,_,_,_,_,_,⟨rfl⟩,rfl,by omega,cI,Zx,Nk,w8⟩
  clear sV NY cI Nk Zx r9 r8 ck w8;cbv;refine aK.go (G:=Int) (λy=>[(16,.v (.int .i64 y))]) (λ_=>[(2,List.replicate 32 (.int .u8 0))]) (λw y h'=>Q w y h') 64 0 (by constructor<;>cbv) bk ?_
  intro w4 y yD D;rw[ak]at D;cbv;obtain⟨j,b0,b1,b2,b3,b4,b5,b6,b7,o,cy,hj,YG,gw,d,w8⟩:=D;have f4:A .az .lss y 64=decide (j<64):=by rw[aJ A,o.eq];exact decide_eq_decide.2 (by omega)
  rw[f4];by_cases L:j<64
  .rw[aH L];have R:=o.ix (len:=64) (by omega);have gk:=eg j L;have ff:=HV j L;have cB:∀h' x v,RS h h' E u n8 V S ys (.slice O r U) T->h' n8=some (.cells (List.toArray (wl g)) 492 (0,0))->h' BH=some (.cells (List.toArray (zu x b0 b1 b2 v b4 b5 b6)) 484 (0,0))->OA x b0 b1 b2 v b4 b5 b6 (aXb (tg P S j) (BJ.getD j 0) (wF P j))->Q (64-(j+1)) (A .aC .add .i64 y 1) h':=λh' x v r' q8 bB q=>by
    rw[ak];exact⟨j+1,_,_,_,_,_,_,_,_,o.succ (A:=A),rfl,L,r',q8,bB,q⟩
   have eb:64-(j+1)<w4:=by omega
   have p:=YG.g3;clear ak bk f4 bF;generalize tg P S j=t at *;cbv;repeat ((first|refine dZ (i:=4) rfl d rfl ?_|refine dZ (i:=0) rfl d rfl ?_|refine dZ (i:=7) rfl d rfl ?_|refine dZ (i:=5) rfl d rfl ?_|refine dZ (i:=6) rfl d rfl ?_|refine dZ (i:=1) rfl d rfl ?_|refine dZ (i:=2) rfl d rfl ?_|refine dZ (i:=3) rfl d rfl ?_|refine lF p o L ?_|refine lF gw o L ?_|refine⟨by decide,?_⟩ |refine⟨R,?_⟩ |refine⟨⟨_,rfl,rfl⟩,?_⟩);cbv)
   refine te w8.e (n:=6) (by decide) (by decide) rfl (λw6 cx=>?_);cbv;repeat ((first|refine dZ (i:=4) rfl d rfl ?_|refine dZ (i:=0) rfl d rfl ?_|refine dZ (i:=7) rfl d rfl ?_|refine dZ (i:=5) rfl d rfl ?_|refine dZ (i:=6) rfl d rfl ?_|refine dZ (i:=1) rfl d rfl ?_|refine dZ (i:=2) rfl d rfl ?_|refine dZ (i:=3) rfl d rfl ?_|refine lF p o L ?_|refine lF gw o L ?_|refine⟨by decide,?_⟩ |refine⟨R,?_⟩ |refine⟨⟨_,rfl,rfl⟩,?_⟩);cbv)
   refine te w8.e (n:=11) (by decide) (by decide) rfl (λfu df=>?_);cbv;repeat ((first|refine dZ (i:=4) rfl d rfl ?_|refine dZ (i:=0) rfl d rfl ?_|refine dZ (i:=7) rfl d rfl ?_|refine dZ (i:=5) rfl d rfl ?_|refine dZ (i:=6) rfl d rfl ?_|refine dZ (i:=1) rfl d rfl ?_|refine dZ (i:=2) rfl d rfl ?_|refine dZ (i:=3) rfl d rfl ?_|refine lF p o L ?_|refine lF gw o L ?_|refine⟨by decide,?_⟩ |refine⟨R,?_⟩ |refine⟨⟨_,rfl,rfl⟩,?_⟩);cbv)
   refine te w8.e (n:=25) (by decide) (by decide) rfl (λft de=>?_);cbv;repeat ((first|refine dZ (i:=4) rfl d rfl ?_|refine dZ (i:=0) rfl d rfl ?_|refine dZ (i:=7) rfl d rfl ?_|refine dZ (i:=5) rfl d rfl ?_|refine dZ (i:=6) rfl d rfl ?_|refine dZ (i:=1) rfl d rfl ?_|refine dZ (i:=2) rfl d rfl ?_|refine dZ (i:=3) rfl d rfl ?_|refine lF p o L ?_|refine lF gw o L ?_|refine⟨by decide,?_⟩ |refine⟨R,?_⟩ |refine⟨⟨_,rfl,rfl⟩,?_⟩);cbv)
   refine te w8.a (n:=2) (by decide) (by decide) rfl (λv2 QB=>?_);cbv;repeat ((first|refine dZ (i:=4) rfl d rfl ?_|refine dZ (i:=0) rfl d rfl ?_|refine dZ (i:=7) rfl d rfl ?_|refine dZ (i:=5) rfl d rfl ?_|refine dZ (i:=6) rfl d rfl ?_|refine dZ (i:=1) rfl d rfl ?_|refine dZ (i:=2) rfl d rfl ?_|refine dZ (i:=3) rfl d rfl ?_|refine lF p o L ?_|refine lF gw o L ?_|refine⟨by decide,?_⟩ |refine⟨R,?_⟩ |refine⟨⟨_,rfl,rfl⟩,?_⟩);cbv)
   refine te w8.a (n:=13) (by decide) (by decide) rfl (λfE ez=>?_);cbv;repeat ((first|refine dZ (i:=4) rfl d rfl ?_|refine dZ (i:=0) rfl d rfl ?_|refine dZ (i:=7) rfl d rfl ?_|refine dZ (i:=5) rfl d rfl ?_|refine dZ (i:=6) rfl d rfl ?_|refine dZ (i:=1) rfl d rfl ?_|refine dZ (i:=2) rfl d rfl ?_|refine dZ (i:=3) rfl d rfl ?_|refine lF p o L ?_|refine lF gw o L ?_|refine⟨by decide,?_⟩ |refine⟨R,?_⟩ |refine⟨⟨_,rfl,rfl⟩,?_⟩);cbv)
   refine te w8.a (n:=22) (by decide) (by decide) rfl (λfC ew=>?_);cbv;repeat ((first|refine dZ (i:=4) rfl d rfl ?_|refine dZ (i:=0) rfl d rfl ?_|refine dZ (i:=7) rfl d rfl ?_|refine dZ (i:=5) rfl d rfl ?_|refine dZ (i:=6) rfl d rfl ?_|refine dZ (i:=1) rfl d rfl ?_|refine dZ (i:=2) rfl d rfl ?_|refine dZ (i:=3) rfl d rfl ?_|refine lF p o L ?_|refine lF gw o L ?_|refine⟨by decide,?_⟩ |refine⟨R,?_⟩ |refine⟨⟨_,rfl,rfl⟩,?_⟩);cbv)
   have hX:=((((w8.h.add (A:=A) ((cx.xor (A:=A) df).xor (A:=A) de)).add (A:=A) ((w8.e.and (A:=A) w8.f).xor (A:=A) ((w8.e.not (A:=A)).and (A:=A) w8.g))).add (A:=A) gk).add (A:=A) ff);have hY:=((QB.xor (A:=A) ez).xor (A:=A) ew).add (A:=A) (((w8.a.and (A:=A) w8.b).xor (A:=A) (w8.a.and (A:=A) w8.c)).xor (A:=A) (w8.b.and (A:=A) w8.c));refine iB d (mr _) (λkD aW=>?_);have YV:Kp [BH] yD kD:=by rw[aW];exact Kp.set (by simp)
   have bB:kD BH=some (.cells (List.toArray (zu _ b0 b1 b2 _ b4 b5 b6)) 484 (0,0)):=(congrFun aW BH).trans ae;have eW:=cB kD _ _ (YG.fQG cE d3 d4 d8 YV (by rw[aW];exact cf.set d (by decide))) (YV _ _ gw (by simpa using d8)) bB ⟨hX.add (A:=A) hY,w8.a,w8.b,w8.c,w8.d.add (A:=A) hX,w8.e,w8.f,w8.g⟩;clear cB aW;cbv;refine⟨64-(j+1),A .aC .add .i64 y 1,eb,by constructor<;>cbv,eW⟩
  rw[ag L];have Rb:j=64:=by omega
  subst Rb;generalize ht:tg P S 64=t at *;have cn:BY S P=S.add t:=by unfold BY;rw[ht,W8.add_comm]
  rw[cn]at bF;clear cn ht;obtain⟨I,X⟩:∃I:Nat->Int->ab->Prop,∀w y h',I w y h'=(∃j,aM y j/\w=8-j/\j<=8/\Le h h'/\h' E=some (.cells (List.toArray (wl V)) 492 (0,0))/\cM 492 mA h' n8 64 ys/\Sl 5 bS h' (.slice O r U) T/\cM 484 mA h' BH 8 t.l/\cM 484 mA h' u 8 (vS S t j)):=⟨_,λ_ _ _=>rfl⟩;have sS:I 8 0 yD:=by rw[X];exact⟨0,⟨rfl⟩,rfl,by omega,YG.le,YG.g3,YG.o8,YG.st,zx d w8,YG.o4⟩
  clear d gw ak bk f4 YG;cbv;refine aK.go (G:=Int) (λy=>[(20,.v (.int .i64 y))]) (λ_=>[(2,List.replicate 32 (.int .u8 0))]) (λw y h'=>I w y h') 8 0 (by constructor<;>cbv) sS ?_
  intro w5 y kD D;rw[X]at D;cbv;obtain⟨j,o,fw,hj,fO,p,o8,st,cr,H⟩:=D;have f5:A .az .lss y 8=decide (j<8):=by rw[aJ A,o.eq];exact decide_eq_decide.2 (by omega)
  rw[f5];by_cases Oj:j<8
  .rw[aH Oj];have R:=o.ix (len:=8) (by omega);have dK:8-(j+1)<w5:=by omega
   have dn:=HC S t Oj;have et:t.l[j]? =some (t.l.getD j 0):=by rw[xa,zs (show j<t.l.length from Oj)];rfl
   have pY:∀h',Le h h'->h' E=some (.cells (List.toArray (wl V)) 492 (0,0))->cM 492 mA h' n8 64 ys->Sl 5 bS h' (.slice O r U) T->cM 484 mA h' BH 8 t.l->cM 484 mA h' u 8 ((vS S t j).set j (S.l.getD j 0+t.l.getD j 0))->I (8-(j+1)) (A .aC .add .i64 y 1) h':=λh' l' x1 x2 x3 x4 x5=>by
    rw[X];rw[HB S t Oj]at x5;exact⟨j+1,o.succ (A:=A),rfl,Oj,l',x1,x2,x3,x4,x5⟩
   have rf:j<(vS S t j).length:=by unfold vS;simpa using Oj
   clear X sS f5 bF;cbv;refine⟨R,?_⟩;cbv;refine(H.sl (n:=8) rfl).load dn o.eq (λcs M=>?_);obtain⟨u4,rfl,dj⟩:=M;cbv;refine⟨R,?_⟩;cbv;refine(cr.sl (n:=8) rfl).load et o.eq (λcs M=>?_);obtain⟨fo,rfl,eA⟩:=M;cbv;refine⟨R,?_⟩;cbv;refine H.setAt (s:=mA) (by simp[mA]) rf o.eq rfl ⟨_,rfl,dj.add (A:=A) eA⟩ (λfe an cL dq=>?_);have HY:=pY fe (fO.aE (bs:=[u]) (by simpa using z4) an) (an _ _ p (by simpa using cv)) (o8.kp an (by simpa using Ne.symm bj) (λ_ _ _ _ hm _=>by cases hm)) (st.mono (cL _ (by decide))) (cr.kp an (by simpa using Ne.symm d4) (λ_ _ _ _ hm _=>by cases hm)) dq;clear pY an cL;cbv;refine⟨8-(j+1),A .aC .add .i64 y 1,dK,by constructor<;>cbv,HY⟩
  rw[ag Oj];have bl:j=8:=by omega
  subst bl;rw[Ta]at H;have dt:=bF kD ys dp ⟨fO,p,H,o8,st⟩;clear bF X sS f5;cbv;refine⟨_,A .aC .add .i64 z 64,aI,by constructor<;>cbv,dt⟩
 rw[ag hc];have ej:64*i=T.length:=by omega
 rw[ej,iQy,JU]at hF;subst hF;obtain⟨G,B,hG⟩:=aQp r6.o4;have l6:=r6.le;clear aX eP f1 r6;cbv;intro HP h7 bg e7;have l7:Le h6 h7:=by rw[e7];exact Le.set bg
 have Xj:u≠HP:=jL B bg;have aw:=l6.none bg;obtain⟨I,X⟩:∃I:Nat->Int->ab->Prop,∀w y h',I w y h'=(∃j g,aM y j/\w=8-j/\j<=8/\Le h h'/\h' u=some (.cells (List.toArray (dQq G)) 484 (0,0))/\h' HP=some (.cells (List.toArray (hl g)) 104 (0,0))/\∀a,a<4*j->g a=((wB (S.l.getD (a / 4) 0) (a % 4)).toNat:Int)):=⟨_,λ_ _ _=>rfl⟩;have sS:I 8 0 h7:=by rw[X];exact⟨0,λ_=>0,⟨rfl⟩,rfl,by omega,l6.trans l7,l7 _ _ B,(congrFun e7 HP).trans ae,λa ha=>by omega⟩
 clear e7 B;cbv;refine aK.go (G:=Int) (λy=>[(22,.v (.int .i64 y))]) (λ_=>[(2,List.replicate 32 (.int .u8 0))]) (λw y h'=>I w y h') 8 0 (by constructor<;>cbv) sS ?_
 intro w6 y h8 D;rw[X]at D;cbv;obtain⟨j,g,o,cx,hj,l8,B,Uk,hg⟩:=D;have f6:A .az .lss y 8=decide (j<8):=by rw[aJ A,o.eq];exact decide_eq_decide.2 (by omega)
 rw[f6];by_cases aj:j<8
 .rw[aH aj];have m0:aM (A .aC .mul .i64 4 y) (4*j):=⟨by
   rw[hA.aC,o.eq];show IntKind.i64.wrap (4*(j:Int))=_;rw[IntWalk.i64_in _ (by omega)];omega⟩
  have m1:=m0.succ (A:=A);have m2:=m0.add (A:=A) (w:=2) (j:=2) ⟨rfl⟩ (by omega);have m3:=m0.add (A:=A) (w:=3) (j:=3) ⟨rfl⟩ (by omega);have c0:=m0.ix (len:=32) (by omega);have c1:=m1.ix (len:=32) (by omega);have c2:=m2.ix (len:=32) (by omega);have c3:=m3.ix (len:=32) (by omega);have R:=o.ix (len:=8) (by omega);have hu:=hG j aj;have v0:=hu.wB (A:=A) (m:=24) (j:=0) (by decide) rfl;have v1:=hu.wB (A:=A) (m:=16) (j:=1) (by decide) rfl;have v2:=hu.wB (A:=A) (m:=8) (j:=2) (by decide) rfl;have v3:=hu.gXn (A:=A);have gj:=Us G aj;have aP:=o.eq;have er:8-(j+1)<w6:=by omega
  have pY:∀h' x0 x1 x2 x3,x0=((wB (S.l.getD j 0) 0).toNat:Int)->x1=((wB (S.l.getD j 0) 1).toNat:Int)->x2=((wB (S.l.getD j 0) 2).toNat:Int)->x3=((wB (S.l.getD j 0) 3).toNat:Int)->Le h h'->h' u=some (.cells (List.toArray (dQq G)) 484 (0,0))->
   h' HP=some (.cells (List.toArray (((((hl g).set (4*j) (.int .u8 x0)).set (4*j+1) (.int .u8 x1)).set (4*j+2) (.int .u8 x2)).set (4*j+3) (.int .u8 x3))) 104 (0,0))->I (8-(j+1)) (A .aC .add .i64 y 1) h':=λh' x0 x1 x2 x3 e0 e1 e2 e3 l' g' q'=>by
   rw[X];rw[tY _ _ (by omega),tY _ _ (by omega),tY _ _ (by omega),tY _ _ (by omega)]at q';refine⟨j+1,_,o.succ (A:=A),rfl,aj,l',g',q',λa ha=>?_⟩;show(if a=4*j+3 then x3 else if a=4*j+2 then x2 else if a=4*j+1 then x1 else if a=4*j then x0 else g a)=_;by_cases a3:a=4*j+3
   .rw[if_pos a3,e3,a3,show(4*j+3) / 4=j by omega,show(4*j+3) % 4=3 by omega]
   rw[if_neg a3];by_cases a2:a=4*j+2
   .rw[if_pos a2,e2,a2,show(4*j+2) / 4=j by omega,show(4*j+2) % 4=2 by omega]
   rw[if_neg a2];by_cases a1:a=4*j+1
   .rw[if_pos a1,e1,a1,show(4*j+1) / 4=j by omega,show(4*j+1) % 4=1 by omega]
   rw[if_neg a1];by_cases a0:a=4*j
   .rw[if_pos a0,e0,a0,show(4*j) / 4=j by omega,show(4*j) % 4=0 by omega]
   rw[if_neg a0];exact hg a (by omega)
  clear X sS f6 hg;cbv;repeat (first|(refine dZ aP B gj ?_;cbv)|(refine⟨R,?_⟩;cbv)|(refine⟨by decide,?_⟩;cbv))
  refine⟨c0,?_⟩;cbv;refine Yx m0 Uk (by show 0+4*j<32;omega) (λx0 bx=>?_);have bE:Kp [HP] h8 x0:=by rw[bx];exact Kp.set (by simp)
  have B:=bE _ _ B (by simpa using Xj);have fc:=l8.aE (bs:=[HP]) (by simpa using aw) bE;have Uk:x0 HP=some (.cells (List.toArray ((hl g).set (4*j) (.int .u8 (A .conv .u8 (A .aC .shr .u32 (G j) 24))))) 104 (0,0)):=by rw[bx,ae,qp]
  clear bx bE;cbv;repeat (first|(refine dZ aP B gj ?_;cbv)|(refine⟨⟨_,rfl,rfl⟩,?_⟩;cbv))
  refine⟨c1,?_⟩;cbv;refine Yx m1 Uk (by rw[ml];show 0+(4*j+1)<32;omega) (λx1 br=>?_);have cb:Kp [HP] x0 x1:=by rw[br];exact Kp.set (by simp)
  have B:=cb _ _ B (by simpa using Xj);have du:=fc.aE (bs:=[HP]) (by simpa using aw) cb;have Uk:x1 HP=some (.cells (List.toArray (((hl g).set (4*j) (.int .u8 (A .conv .u8 (A .aC .shr .u32 (G j) 24)))).set (4*j+1) (.int .u8 (A .conv .u8 (A .aC .shr .u32 (G j) 16))))) 104 (0,0)):=by rw[br,ae,qp]
  clear br cb;cbv;repeat (first|(refine dZ aP B gj ?_;cbv)|(refine⟨⟨_,rfl,rfl⟩,?_⟩;cbv))
  refine⟨c2,?_⟩;cbv;refine Yx m2 Uk (by rw[ml];rw[ml];show 0+(4*j+2)<32;omega) (λx2 bn=>?_);have ca:Kp [HP] x1 x2:=by rw[bn];exact Kp.set (by simp)
  have B:=ca _ _ B (by simpa using Xj);have fb:=du.aE (bs:=[HP]) (by simpa using aw) ca;have Uk:x2 HP=some (.cells (List.toArray ((((hl g).set (4*j) (.int .u8 (A .conv .u8 (A .aC .shr .u32 (G j) 24)))).set (4*j+1) (.int .u8 (A .conv .u8 (A .aC .shr .u32 (G j) 16)))).set (4*j+2) (.int .u8 (A .conv .u8 (A .aC .shr .u32 (G j) 8))))) 104 (0,0)):=by rw[bn,ae,qp]
  clear bn ca;cbv;repeat (first|(refine dZ aP B gj ?_;cbv)|(refine⟨⟨_,rfl,rfl⟩,?_⟩;cbv))
  refine⟨c3,?_⟩;cbv;refine Yx m3 Uk (by rw[ml];rw[ml];rw[ml];show 0+(4*j+3)<32;omega) (λx3 bm=>?_);have bG:Kp [HP] x2 x3:=by rw[bm];exact Kp.set (by simp)
  have B:=bG _ _ B (by simpa using Xj);have eY:=fb.aE (bs:=[HP]) (by simpa using aw) bG;have Uk:x3 HP=some (.cells (List.toArray (((((hl g).set (4*j) (.int .u8 (A .conv .u8 (A .aC .shr .u32 (G j) 24)))).set (4*j+1) (.int .u8 (A .conv .u8 (A .aC .shr .u32 (G j) 16)))).set (4*j+2) (.int .u8 (A .conv .u8 (A .aC .shr .u32 (G j) 8)))).set (4*j+3) (.int .u8 (A .conv .u8 (G j))))) 104 (0,0)):=by rw[bm,ae,qp]
  clear bm bG;cbv;have HY:=pY x3 _ _ _ _ v0 v1 v2 v3 eY B Uk;clear pY;cbv;refine⟨_,A .aC .add .i64 y 1,er,by constructor<;>cbv,HY⟩
 rw[ag aj];have bl:j=8:=by omega
 subst bl;have:=hk h8 g l8 (qZ (qQ _) λa x hx=>by
  have ha:a<32:=by have:=(dB.1 hx).1;rw[qQ]at this;exact this
  rw[Gn _ ha]at hx;cases hx;exact hg a (by omega))
 clear hk X sS;cbv;refine bc Uk ?_;cbv;exact this
theorem Tx{l:Bs}(q:Sl e1 bS h (.slice b n c) l)(C:n<=2^37)
 (o:∀h' g,Le h h'->hl g=aA (vr l)->k (.agg (List.toArray (hl g))) h'):Ct 290 [.slice b n c] h k:=by
 have d:=q.len;refine cp cZc Tryz.func290 λA B=>?_;cbv;intro i a e e1;have f:Le h a:=by rw[e1];exact Le.set e
 have u:aT 5 bS h a (.slice (some ⟨i,0,none⟩) 1 1) [0]:=(Ec (s:=bS) (x:=0) ((congrFun e1 i).trans ae) rfl).buf e rfl;clear e1;cbv;refine u.app (q.mono (f.t _)) (by decide) rfl (by decide) (by omega) f (λD w y z G r E p v=>?_);clear p;cbv;refine HJ v.sl (by omega) (λj g t m=>?_);have:=o j g (r.trans t) m;cbv;exact this
theorem cKW{i j:Nat->Int}{x y:Bs}(h0:hl i=aA x)(u:hl j=aA y)(hx:x.length=32)(z:y.length=32)
 (o:∀h' g,Le h h'->hl g=aA (uE x y)->k (.agg (List.toArray (hl g))) h'):Ct 298 [.agg (List.toArray (hl i)),.agg (List.toArray (hl j))] h k:=by
 have T:uE x y=Mg ([1]++x++y):=by unfold uE;simp
 rw[T]at o;clear T;refine cp cXW Tryz.func298 λA X=>?_;cbv;intro q l E e;have D:Le h l:=by rw[e];exact Le.set E
 have a:l q=some (.cells (List.toArray (hl i)) 104 (0,0)):=(congrFun e q).trans ae;clear e;cbv;intro r c M d;have p:Le l c:=by rw[d];exact Le.set M
 have b:c r=some (.cells (List.toArray (hl j)) 104 (0,0)):=(congrFun d r).trans ae;have a:=p _ _ a;clear d;cbv;intro t n H f;have m:Le c n:=by rw[f];exact Le.set H
 have J:aT 5 bS c n (.slice (some ⟨t,0,none⟩) 1 1) [1]:=(Ec (s:=bS) (x:=1) ((congrFun f t).trans ae) rfl).buf H rfl;have a:=m _ _ a;have b:=m _ _ b;clear f;cbv;refine J.app (so a h0 hx) (by decide) rfl (by decide) (by decide) m (λY P S V O F N B K=>?_);have b:=N [104] (by decide) _ _ _ _ (by simp) b;clear B;cbv;refine K.app (so b u z) (by decide) rfl (by decide) (by omega) F (λZ R U W Q G t6 C L=>?_);clear C;cbv;refine HJ L.sl (by omega) (λv g I w=>?_);have:=o v g ((D.trans p).trans (G.trans I)) w;cbv;exact this
theorem aQY(q:aM z n)(u:2<=n)(r:n<=2^60)(b:∀w,aM w (vL n)->k (.int .i64 w) h):Ct 297 [.int .i64 z] h k:=by
 obtain⟨J,a⟩:∃J:Nat->Int->ab->Prop,∀w y h',J w y h'=(∃i,aM y i/\w=n-i/\0<i/\i<n/\h'=h/\xC i n=vL n):=⟨_,λ_ _ _=>rfl⟩;have e:J (n-1) 1 h:=by rw[a];exact⟨1,⟨rfl⟩,rfl,by omega,by omega,rfl,rfl⟩
 generalize vL n=C at *;refine cp cXX Tryz.func297 λA o=>?_;cbv;refine aK.go (G:=Int) (λy=>[(3,.v (.int .i64 y))]) (λ_=>[]) (λw y h'=>J w y h') (n-1) 1 (by constructor<;>cbv) e ?_
 intro w y l I;rw[a]at I;cbv;obtain⟨i,g,v,h0,s,rfl,d⟩:=I;have m:A .aC .mul .i64 2 y=((2*i:Nat):Int):=by rw[o.aC,g.eq];show IntKind.i64.wrap (2*(i:Int))=_;rw[IntWalk.i64_in _ (by omega)];omega
 have f:A .az .lss (A .aC .mul .i64 2 y) z=decide (2*i<n):=by rw[m,aJ A,q.eq];exact decide_eq_decide.2 (by omega)
 have F:xC i n=if h:2*i<n/\0<i then xC (2*i) n else i:=by rw[xC]
 rw[f];by_cases c:2*i<n
 .rw[dif_pos ⟨c,h0⟩,d]at F;have t:J (n-2*i) (A .aC .mul .i64 2 y) l:=by rw[a];exact⟨2*i,⟨m⟩,rfl,by omega,c,rfl,F.symm⟩
  have j:n-2*i<w:=by omega
  rw[aH c];clear a e b f m;cbv;refine⟨_,A .aC .mul .i64 2 y,j,by constructor<;>cbv,t⟩
 rw[dif_neg (λp=>c p.1),d]at F;have:=b y (by rw[F];exact g);rw[ag c];clear a e b f m;cbv;exact this
theorem Tr(N:Nat):∀ {h:ab} {b:Option Addr} {n c:Nat} {L:List Bs} (q:Sl 104 iM h (.slice b n c) L) (H:L.length<=N) {k:Value->ab->Prop}
 (a:∀h' g,Le h h'->hl g=aA (eO L)->(eO L).length=32->k (.agg (List.toArray (hl g))) h'),Ct 224 [.slice b n c] h k:=by
 induction N with
 |zero=>
  intro h b n c L q H k a;obtain⟨A,t⟩:=Ar.ex;have e:=q.len;have o:L=[]:=ee (by omega);subst o;have r:A .az .eql (A .nat n) 0=true:=by rw[aq A,t.nat,e];rfl
  refine dH XJ A Tryz.func224 ?_;cbv;rw[r];cbv;refine HJ (e1:=0) (l:=[]) Sl.nil (by simp) (λs g j d=>?_);have:=a s g j (by rw[d];rw[eO]) (by rw[eO];exact iW _);cbv;exact this
 |succ N p=>
  intro h b n c L q H k a;obtain⟨A,t⟩:=Ar.ex;have e:=q.len;have iD:=q.bound;have r:A .az .eql (A .nat n) 0=decide (L.length=0):=by rw[aq A,t.nat,<-e];exact decide_eq_decide.2 (by show(n:Int)=0↔_;omega)
  have G:A .az .eql (A .nat n) 1=decide (L.length=1):=by rw[aq A,t.nat,<-e];exact decide_eq_decide.2 (by show(n:Int)=1↔_;omega)
  refine dH XJ A Tryz.func224 ?_;cbv;rw[r];by_cases v:L.length=0
  .have o:L=[]:=ee v;subst o;rw[aH v];clear p;cbv;refine HJ (e1:=0) (l:=[]) Sl.nil (by simp) (λs g j d=>?_);have:=a s g j (by rw[d];rw[eO]) (by rw[eO];exact iW _);cbv;exact this
  rw[ag v];cbv;rw[G];by_cases B:L.length=1
  .obtain⟨x,hx⟩:=di L 0;have o:L=[x]:=by
    match L,B with
    | [y],_=>cases hx;rfl
   have hR:eO L=x:=by rw[o,eO]
   rw[hR]at a;have X:b.isSome=true:=q.aR;have ix:(0:Int)<=0/\(0:Int)<(n:Int):=by omega
   rw[aH B];clear p;cbv;refine⟨⟨X,ix⟩,?_⟩;cbv;refine q.load hx rfl (λcs u=>?_);obtain⟨u,E⟩:=u;obtain⟨g,d⟩:=AH E;rw[<-d]at u;subst u;have:=a h g (Le.refl _) d E;cbv;exact this
  rw[ag B];have hR:=CA (L:=L) (by omega);obtain⟨I,K⟩:=yW (n:=L.length) (by omega);rw[hR]at a;have V:2<=n:=by omega
  have Z:L.length=n:=e.symm;rw[Z]at a I K;obtain⟨m,J⟩:∃m,m=vL n:=⟨_,rfl⟩;rw[<-J]at a I K;clear r G hR;cbv;refine aQY (aM.nat n) V (by omega) (λw f=>?_);rw[<-J]at f;have Y:0<=w/\w<=(c:Int):=by have:=f.eq;omega
  have lJ:0<=w/\w<=(n:Int):=by have:=f.eq;omega
  have T:=cQ (A:=A) f;obtain⟨n2,D⟩:∃x,x=n-m:=⟨_,rfl⟩;obtain⟨c2,R⟩:∃x,x=c-m:=⟨_,rfl⟩;have F:=bZ (A:=A) (n:=n) f;have C:=bZ (A:=A) (n:=c) f;rw[<-D]at F;rw[<-R]at C;have O:=q.pw (A:=A) (z:=A .nat c) (i:=m) (by omega) rfl;have M:=q.gT (A:=A) f (by omega) D R;cbv;refine⟨Y,?_⟩;cbv;refine⟨lJ,?_⟩;cbv;rw[T,F,C];refine p O (by rw[dW];omega) (λs g1 j uv U=>?_);have Q:=M.mono (j.t _);clear M O;cbv;refine p Q (by rw[ec];omega) (λh2 g2 l2 P S=>?_);clear p;cbv;refine cKW uv P U S (λW g l4 d=>?_);have:=a W g ((j.trans l2).trans l4) d (FH _ _);cbv;exact this
end Go.S
