import Derived.Test.YthnbpiejemlbeaaGreatBF
set_option linter.all false
set_option maxRecDepth 100000
set_option maxHeartbeats 4000000
namespace Go.S
open Go.Sx Go.Proofs
variable {d z:Int}{c:List Value}{L:List cC}{i n p:Nat}{b:Option Addr}{s:St}{k:Value->ab->Prop}{h:ab}
structure jt(h:ab)(p:Nat)(s:St):Prop where
 out:∃bb n c l z i err,h p=some (.cells (List.toArray [.slice bb n c,.int .i64 z,.int .i64 err]) 370 (0,0))/\Sl 5 bL h (.slice bb n c) l/\aK z i/\i<=n/\s=if err=0 then some (l.drop i)else none
theorem Jv{c:Nat}{l:Bs}(q:Sl 5 bL h (.slice b n c) l)
 (f:∀h' p,h p=none->Le h h'->jt h' p (some l)->k (.pointer (some ⟨p,0,none⟩)) h'):Ct 197 [.slice b n c] h k:=by
 refine an dZG Tryz.func197 λA g=>?_;cbv;intro p a d e1;have e:Le h a:=by rw[e1];exact Le.set d
 have:=f a p d e ⟨b,n,c,l,0,0,0,(congrFun e1 p).trans ae,q.mono (e.t _),⟨rfl⟩,Nat.zero_le _,rfl⟩;clear e1;cbv;exact this
theorem jt.wr{h':ab}{bb:Option Addr}{cc:Nat}{l:Bs}{err:Int}(g:h p=some (.cells (List.toArray c) 370 (0,0)))(e:h'=bu h p (.cells (List.toArray [.slice bb n cc,.int .i64 z,.int .i64 err]) 370 (0,0)))(sl:Sl 5 bL h (.slice bb n cc) l)(d:aK z i)(a:i<=n)(b:s=if err=0 then some (l.drop i)else none):Kp [p] h h'/\jt h' p s/\bV [5] h h':=by
 have t:bV [5] h h':=by rw[e];exact bV.set g (by decide)
 exact⟨by rw[e];exact Kp.set (by simp),⟨bb,n,cc,l,z,i,err,(congrFun e p).trans ae,sl.mono t,d,a,b⟩,t⟩
theorem Ft(q:jt h p s)(E:aK z n)
 (j:∀h' b m c,Kp [p] h h'->jt h' p (dO n s).2->Sl 5 bL h' (.slice b m c) (dO n s).1->k (.slice b m c) h'):Ct 297 [.pointer (some ⟨p,0,none⟩),.int .i64 z] h k:=by
 obtain⟨A,I⟩:=Ar.ex;obtain⟨bb,m,c,l,u,i,err,g,sl,O,hi,t⟩:=q.out;have L:=sl.len;have iW:=sl.bound;have F:A .ay .eql err 0=decide (err=0):=aq A ..;have fn:A .ay .neq err 0=decide (err≠0):=av A ..;refine ik A [3] (ai dQU.au dQU.aN) Tryz.func297 rfl (by kernel_rfl) ?_;have g0:=g;obtain⟨C,V⟩:∃C:Int->ab->Prop,∀e h',C e h'=(h' p=some (.cells (List.toArray [.slice bb m c,.int .i64 u,.int .i64 e]) 370 (0,0))/\Kp [p] h h'/\bV [5] h h'/\(e=0->i+n<=m/\dO n s=((l.drop i).take n,some ((l.drop i).drop n)))/\(e≠0->dO n s=([],none))):=⟨_,λ_ _=>rfl⟩;cbv;refine ny.go (G:=Int) (λ_=>[]) (λ_=>[]) C ?_ ?_
 .cbv;rw[al A];refine ak g ?_;cbv;rw[F];by_cases a:err=0
  .rw[if_pos a]at t;have f1:A .ay .lss (A .aC .sub .i64 (A .nat m) u) z=decide (m-i<n):=by rw[aD A,I.aC,I.nat,O.eq,E.eq];refine decide_eq_decide.2 ?_;show IntKind.i64.wrap ((m:Int)-(i:Int))<(n:Int)↔_;rw[IntWalk.i64_in _ (by omega)];omega
   subst t a;have T:dO n (some (l.drop i))=if n<=(l.drop i).length then((l.drop i).take n,some ((l.drop i).drop n))else([],none):=rfl
   rw[List.length_drop]at T;rw[decide_eq_true rfl];cbv;rw[al A];refine ak g ?_;cbv;rw[al A];refine ak g ?_;cbv;rw[f1];by_cases J:m-i<n
   .rw[if_neg (by omega)]at T;have d:∀h',h'=bu h p (.cells (List.toArray [.slice bb m c,.int .i64 u,.int .i64 8]) 370 (0,0))->C 8 h':=λh' e=>by
     rw[V];exact⟨(congrFun e p).trans ae,by rw[e];exact Kp.set (by simp),by rw[e];exact bV.set g (by decide),λr=>absurd r (by decide),λ_=>T⟩
    rw[decide_eq_true J];clear V j T;cbv;rw[al A];refine jr g (Nat.le_refl _) (λD e1=>?_);have d:=d D e1;clear e1;cbv;refine⟨8,by constructor<;>cbv,d⟩
   rw[if_pos (by omega)]at T;have d:C 0 h:=by rw[V];exact⟨g,Kp.refl _ _,bV.refl _ _,λ_=>⟨by omega,T⟩,λr=>absurd rfl r⟩
   rw[decide_eq_false J];clear V j T;cbv;refine⟨0,by constructor<;>cbv,d⟩
  rw[if_neg a]at t;subst t;have d:C err h:=by rw[V];exact⟨g,Kp.refl _ _,bV.refl _ _,λr=>absurd r a,λ_=>rfl⟩
  rw[decide_eq_false a];clear V j;cbv;refine⟨err,by constructor<;>cbv,d⟩
 intro e D d;rw[V]at d;cbv;obtain⟨o,P,t1,Y,c1⟩:=d;have fe:A .ay .neq e 0=decide (e≠0):=av A ..;have K:=sl.mono (t1.sub);clear V C F fn t;rw[al A];refine ak o ?_;cbv;rw[fe];by_cases a:e≠0
 .rw[decide_eq_true a];have T:=c1 a;rw[T]at j;have:=j D none 0 0 P ⟨bb,m,c,l,u,i,e,o,K,O,hi,by rw[if_neg a]⟩ Sl.nil;cbv;exact this
 rw[decide_eq_false a];have a:e=0:=by omega
 obtain⟨eC,T⟩:=Y a;rw[T]at j;subst a;obtain⟨w,N⟩:∃w,w=A .aC .add .i64 u z:=⟨_,rfl⟩;have Q:aK w (i+n):=by rw[N];exact O.add (A:=A) E (by omega)
 obtain⟨v,M⟩:∃v,v=A .aC .sub .i64 w z:=⟨_,rfl⟩;have f:aK v i:=by
  have:=Q.sub (A:=A) E (by omega) (by omega);rw[<-M]at this;have e:i+n-n=i:=by omega
  rw[e]at this;exact this
 obtain⟨S,Z⟩:∃x,x=n:=⟨n,rfl⟩;obtain⟨c2,R⟩:∃x,x=c-i:=⟨_,rfl⟩;have X:A .mg w v=S:=by rw[Gp (A:=A) Q f,Z];omega
 have W:A .mg (A .nat c) v=c2:=by rw[bQ (A:=A) f,R]
 have dv:0<=w/\w<=(c:Int)/\0<=v/\v<=w:=by have:=Q.eq;have:=f.eq;omega
 have U:=(K.iH (A:=A) f (by omega) (m:=m-i) rfl R).short (m:=S) (by omega);rw[Z]at U;cbv;rw[al A];refine ak o ?_;cbv;rw[al A,<-N];refine jr o (by show 2<=3;decide) (λH y=>?_);obtain⟨k2,r2,t2⟩:=jt.wr (s:=some ((l.drop i).drop n)) (bb:=bb) (n:=m) (cc:=c) (l:=l) (z:=w) (i:=i+n) (err:=0) o y K Q (by omega) (by rw[if_pos rfl,List.drop_drop]);have B:H p=some (.cells (List.toArray [.slice bb m c,.int .i64 w,.int .i64 0]) 370 (0,0)):=(congrFun y p).trans ae;have:=j H _ _ _ (P.trans k2) r2 (U.mono (t2.sub));clear y j;cbv;rw[al A];refine ak B ?_;cbv;rw[al A];refine ak B ?_;cbv;rw[al A,<-M];refine ak B ?_;cbv;refine⟨dv,?_⟩;cbv;rw[X,W,Z];exact this
def iw(s:St):gV×St:=
 if(az 1 s).1=0 then(⟨0,0,⟨#[]⟩⟩,(az 1 s).2)
 else if(az 1 s).1=1 then(⟨1,((az 1 (az 1 s).2).1:Int),⟨#[]⟩⟩,(az 1 (az 1 s).2).2)
 else if(az 1 s).1=2 then(⟨2,IntKind.i64.wrap ((az 8 (az 1 s).2).1:Int),⟨#[]⟩⟩,(az 8 (az 1 s).2).2)
 else if(az 1 s).1=3 then(⟨3,0,strOf (aM (az 1 s).2).1⟩,(aM (az 1 s).2).2)
 else(⟨((az 1 s).1:Int),0,⟨#[]⟩⟩,none)
def ei:Nat->St->Row×St
 |0,s=>([],s)
 |n+1,s=>((iw s).1::(ei n (iw s).2).1,(ei n (iw s).2).2)
def iN(r:Row×St):Option Row:=if r.2=some []then if r.1.all (λv=>decide (da v=0))=true then some r.1 else none else none
def eU(b:Bs):Option Row:=
 if(az 1 (some b)).1>6 then iN (ei 0 none)else iN (ei (az 1 (some b)).1 (az 1 (some b)).2)
theorem bZM(q:fh h p s)(e:∀h' v,v=(iw s).1->Kp [p] h h'->fh h' p (iw s).2->k (.agg #[.int .i64 v.k,.int .i64 v.n,.string v.s]) h'):
 Ct 366 [.agg #[.pointer (some ⟨p,0,none⟩)]] h k:=by
 have V:iw s=if(az 1 s).1=0 then(⟨0,0,⟨#[]⟩⟩,(az 1 s).2)
  else if(az 1 s).1=1 then(⟨1,((az 1 (az 1 s).2).1:Int),⟨#[]⟩⟩,(az 1 (az 1 s).2).2)
  else if(az 1 s).1=2 then(⟨2,IntKind.i64.wrap ((az 8 (az 1 s).2).1:Int),⟨#[]⟩⟩,(az 8 (az 1 s).2).2)
  else if(az 1 s).1=3 then(⟨3,0,strOf (aM (az 1 s).2).1⟩,(aM (az 1 s).2).2)
  else(⟨((az 1 s).1:Int),0,⟨#[]⟩⟩,none):=rfl
 refine an cKP Tryz.func366 λA C=>?_;cbv;refine pR q (λw x hx j l=>?_);have f:A .ay .eql x 0=decide ((az 1 s).1=0):=by rw[aq A];exact decide_eq_decide.2 (by omega)
 have d:A .ay .eql x 1=decide ((az 1 s).1=1):=by rw[aq A];exact decide_eq_decide.2 (by omega)
 have g:A .ay .eql x 2=decide ((az 1 s).1=2):=by rw[aq A];exact decide_eq_decide.2 (by omega)
 have u:A .ay .eql x 3=decide ((az 1 s).1=3):=by rw[aq A];exact decide_eq_decide.2 (by omega)
 by_cases m:(az 1 s).1=0
 .rw[if_pos m]at V;have r:x=0:=by omega
  have:=e w ⟨0,0,⟨#[]⟩⟩ (by rw[V]) j (by rw[V];exact l);rw[decide_eq_true m]at f;subst r;cbv;rw[f];cbv;exact this
 rw[if_neg m]at V;rw[decide_eq_false m]at f;by_cases n:(az 1 s).1=1
 .rw[if_pos n]at V;have r:x=1:=by omega
  rw[decide_eq_true n]at d;subst r;cbv;rw[f];cbv;rw[d];cbv;refine pR l (λa y i b c=>?_);have:=e a ⟨1,y,⟨#[]⟩⟩ (by rw[V,i]) (j.trans b) (by rw[V];exact c);cbv;exact this
 rw[if_neg n]at V;rw[decide_eq_false n]at d;by_cases o:(az 1 s).1=2
 .rw[if_pos o]at V;have r:x=2:=by omega
  rw[decide_eq_true o]at g;subst r;cbv;rw[f];cbv;rw[d];cbv;rw[g];cbv;refine aQU l (λa y i b c=>?_);have:=e a ⟨2,y,⟨#[]⟩⟩ (by rw[V,i]) (j.trans b) (by rw[V];exact c);cbv;exact this
 rw[if_neg o]at V;rw[decide_eq_false o]at g;by_cases t:(az 1 s).1=3
 .rw[if_pos t]at V;have r:x=3:=by omega
  rw[decide_eq_true t]at u;subst r;cbv;rw[f];cbv;rw[d];cbv;rw[g];cbv;rw[u];cbv;refine xP l (λa y i b c=>?_);have:=e a ⟨3,0,y⟩ (by rw[V,i]) (j.trans b) (by rw[V];exact c);cbv;exact this
 rw[if_neg t]at V;rw[decide_eq_false t]at u;have Y:∀h',Kp [p] h h'->fh h' p none->k (.agg #[.int .i64 x,.int .i64 0,.string ⟨#[]⟩]) h':=λh' z B=>e h' ⟨x,0,⟨#[]⟩⟩ (by rw[V,hx]) z (by rw[V];exact B);clear e V hx;cbv;rw[f];cbv;rw[d];cbv;rw[g];cbv;rw[u];cbv;refine NJ l 3 (λa b c=>?_);have:=Y a (j.trans b) c;cbv;exact this
theorem aQP{e1:Nat}{m c:Nat}{l:Bs}(q:Sl e1 bL h (.slice b m c) l)
 (M:eU l=none->∀h' (e:Int),Le h h'->e≠0->k (.tuple #[.slice none 0 0,.int .i64 e]) h')
 (F:∀r h' b n c,eU l=some r->Le h h'->Sl 45 aS h' (.slice b n c) r->n<=6->k (.tuple #[.slice b n c,.int .i64 0]) h'):
 Ct 339 [.slice b m c] h k:=by
 obtain⟨A,hA⟩:=Ar.ex;have P:eU l=if(az 1 (some l)).1>6 then iN (ei 0 none)else iN (ei (az 1 (some l)).1 (az 1 (some l)).2):=rfl
 refine ik A [7] (ai dQk.au dQk.aN) Tryz.func339 rfl (by kernel_rfl) ?_;cbv;refine Qh q (λh1 p hp l1 q1=>?_);cbv;refine pR q1 (λh2 x hx k2 q2=>?_);have l2:Le h h2:=l1.aE (bs:=[p]) (by simpa using hp) k2;generalize az 1 (some l)=R at *;obtain⟨T,s1⟩:=R;have q2:fh h2 p s1:=q2;have hx:x=(T:Int):=hx;have P:eU l=if T>6 then iN (ei 0 none)else iN (ei T s1):=P
 have f1:A .ay .gtr x 6=decide (T>6):=by rw[aX A];exact decide_eq_decide.2 (by omega)
 obtain⟨C,V⟩:∃C:Int->ab->Prop,∀z h1,C z h1=(∃d D,aK z d/\d<=6/\Le h h1/\fh h1 p D/\eU l=iN (ei d D)):=⟨_,λ_ _=>rfl⟩;cbv;refine ny.go (G:=Int) (λz=>[(6,.v (.int .i64 z))]) (λ_=>[(4,[.pointer (some ⟨p,0,none⟩)])]) C ?_ ?_
 .cbv;rw[f1];by_cases t:T>6
  .rw[if_pos t]at P;have Y:∀h',Kp [p] h2 h'->fh h' p none->C 0 h':=λh' k' q'=>by
    rw[V];exact⟨0,none,⟨rfl⟩,by omega,l2.aE (bs:=[p]) (by simpa using hp) k',q',P⟩
   rw[decide_eq_true t];clear V P f1 M F;cbv;refine NJ q2 4 (λh4 k4 q4=>?_);have Y:=Y h4 k4 q4;cbv;refine⟨0,by constructor<;>cbv,Y⟩
  rw[if_neg t]at P;have Y:C x h2:=by rw[V];exact⟨T,s1,⟨hx⟩,by omega,l2,q2,P⟩
  rw[decide_eq_false t];clear V P f1 M F;cbv;refine⟨x,by constructor<;>cbv,Y⟩
 intro z h4 t;rw[V]at t;obtain⟨d,D,WN,Pf,l4,q4,P⟩:=t;clear V f1 q1 q2 k2 l1 l2;obtain⟨J,Z⟩:∃J:Nat->((Option Addr×Nat×Nat)×Int)->ab->Prop,∀w g h',J w g h'=(∃i o f,aK g.2 i/\w=d-i/\i<=d/\Le h h'/\fh h' p o/\aU 45 aS h h' (.slice g.1.1 g.1.2.1 g.1.2.2) f/\f.length=i/\f++(ei (d-i) o).1=(ei d D).1/\(ei (d-i) o).2=(ei d D).2):=⟨_,λ_ _ _=>rfl⟩;have df:J d ((none,0,0),0) h4:=by rw[Z];exact⟨0,D,[],⟨rfl⟩,rfl,by omega,l4,q4,aU.nil,rfl,rfl,rfl⟩
 cbv;refine aG.go (G:=(Option Addr×Nat×Nat)×Int) (λg=>[(7,.v (.slice g.1.1 g.1.2.1 g.1.2.2)),(26,.v (.int .i64 g.2))]) (λ_=>[(4,[.pointer (some ⟨p,0,none⟩)])]) (λw g h'=>J w g h') d ((none,0,0),0) (by constructor<;>cbv) df ?_
 intro w g X hI;rw[Z]at hI;cbv;obtain⟨⟨gb,H,gc⟩,zi⟩:=g;obtain⟨i,o,f,gO,hw,hi,l5,q5,U,ux,E,B⟩:=hI;have gO:aK zi i:=gO;have U:aU 45 aS h X (.slice gb H gc) f:=U;have nj:=U.sl.len;have f2:A .ay .lss zi z=decide (i<d):=by rw[aD A,gO.eq,WN.eq];exact decide_eq_decide.2 (by omega)
 rw[f2];by_cases t:i<d
 .have O:ei (d-i) o=((iw o).1::(ei (d-(i+1)) (iw o).2).1,(ei (d-(i+1)) (iw o).2).2):=by
   have:d-i=(d-(i+1))+1:=by omega
   rw[this];rfl
  rw[O]at E B;have W:∀h' u m' c',m'=H+1->Le h h'->fh h' p (iw o).2->aU 45 aS h h' (.slice u m' c') (f++[(iw o).1])->J (d-(i+1)) ((u,m',c'),A .aC .add .i64 zi 1) h':=λh' u m' c' e l' q' u=>by
   rw[Z];refine⟨i+1,_,_,gO.succ (A:=A),rfl,by omega,l',q',u,?_,?_,B⟩
   .rw[List.length_append,ux];rfl
   rw[<-E];simp
  have aF:d-(i+1)<w:=by omega
  have UE:H+1<=2^39:=by omega
  rw[decide_eq_true t];clear Z df O E B f2 M F P t;cbv;refine bZM q5 (λS v hv k6 q6=>?_);have t6:bV [45] X S:=q5.lt k6 (by decide);have N:Le h S:=l5.aE (bs:=[p]) (by simpa using hp) k6;rw[<-hv]at W;generalize iw o=R1 at *;obtain⟨v0,s3⟩:=R1;have q6:fh S p s3:=q6;have W:∀h' u m' c',m'=H+1->Le h h'->fh h' p s3->aU 45 aS h h' (.slice u m' c') (f++[v])->J (d-(i+1)) ((u,m',c'),A .aC .add .i64 zi 1) h':=W;have b6:=U.mono t6;obtain⟨vk,vn,vs⟩:=v;cbv;intro n7 L DG e7;have Dy:Le S L:=by rw[e7];exact Le.set DG
  have s7:Sl 45 aS L (.slice (some ⟨n7,0,none⟩) 1 1) [⟨vk,vn,vs⟩]:=aR (s:=aS) ((congrFun e7 n7).trans ae) rfl;clear e7;cbv;refine(b6.mono (Dy.t _)).append s7 (by decide) rfl (by decide) UE (N.trans Dy) (λm8 b8 c8 h8 ZM l8 t8 k8 ag=>?_);have q8:=(q6.le Dy).mt (t8 _ (by decide));have gU:=W h8 b8 m8 c8 ZM l8 q8 ag;clear W k8;cbv;refine⟨_,((b8,m8,c8),A .aC .add .i64 zi 1),aF,by constructor<;>cbv,gU⟩
 have hi:i=d:=by omega
 subst hi;rw[Nat.sub_self]at E B;have E:f=(ei i D).1:=by rw[<-E];show f=f++[];simp
 have B:o=(ei i D).2:=B;generalize ei i D=RR at *;obtain⟨r0,s9⟩:=RR;have E:f=r0:=E;have B:o=s9:=B;subst E B;have P:eU l=if o=some []then if f.all (λv=>decide (da v=0))=true then some f else none else none:=P
 rw[decide_eq_false t];clear Z df f2 t;cbv;refine Jw q5 (λe he=>?_);have f3:A .ay .neq e 0=decide (e≠0):=av A ..;by_cases c3:e≠0
 .rw[if_neg (λhh=>c3 (he.2 hh))]at P;rw[decide_eq_true c3]at f3;have:=M P X e l5 c3;clear M F;cbv;rw[f3];cbv;exact this
 have uv:e=0:=by omega
 rw[if_pos (he.1 uv)]at P;rw[decide_eq_false c3]at f3;have K:=U.sl;obtain⟨I,Q⟩:∃I:Nat->Int->ab->Prop,∀w y h',I w y h'=(∃j,aK y j/\w=i-j/\j<=i/\Le X h'/\∀a x,a<j->f[a]? =some x->da x=0):=⟨_,λ_ _ _=>rfl⟩;have jM:I i 0 X:=by rw[Q];exact⟨0,⟨rfl⟩,rfl,by omega,Le.refl _,λa x ha=>by omega⟩
 cbv;rw[f3];cbv;refine aG.go (G:=Int) (λy=>[(42,.v (.int .i64 y))]) (λ_=>[(4,[.pointer (some ⟨p,0,none⟩)])]) (λw y h'=>I w y h') i 0 (by constructor<;>cbv) jM ?_
 intro w y S hI;rw[Q]at hI;cbv;obtain⟨j,hy,hw,hj,N,bp⟩:=hI;have f4:A .ay .lss y (A .nat H)=decide (j<i):=by rw[aD A,hy.eq,hA.nat];exact decide_eq_decide.2 (by show(j:Int)<(H:Int)↔_;omega)
 rw[f4];by_cases c4:j<i
 .rw[decide_eq_true c4];obtain⟨x,hx⟩:=bn f j;have iU:gb.isSome=true:=K.aQ;have iy:=hy.ix (len:=H) (by omega);have aF:i-(j+1)<w:=by omega
  clear f4;cbv;refine⟨⟨iU,iy⟩,?_⟩;cbv;refine(K.mono (N.t _)).load hx hy.eq (λcs O=>?_);have O:cs=[.int .i64 x.k,.int .i64 x.n,.string x.s]:=O;subst O;cbv;refine(Jd x S).mono (λv L hR=>?_);obtain⟨l7,ze,rfl,dh⟩:=hR;have f5:A .ay .neq ze 0=decide (ze≠0):=av A ..;by_cases c5:ze≠0
  .rw[if_neg (λhh=>by
    have:=List.all_eq_true.1 hh x (List.mem_of_getElem? hx);have:=of_decide_eq_true this;omega)]at P
   have:=M P L ze ((l5.trans N).trans l7) c5;rw[decide_eq_true c5]at f5;clear M F Q jM;cbv;rw[f5];cbv;exact this
  have AY:I (i-(j+1)) (A .aC .add .i64 y 1) L:=by
   rw[Q];refine⟨j+1,hy.succ (A:=A),rfl,by omega,N.trans l7,λa x' ha AR=>?_⟩;by_cases e:a=j
   .subst e;rw[hx]at AR;cases AR;omega
   exact bp a x' (by omega) AR
  rw[decide_eq_false c5]at f5;clear M F Q jM;cbv;rw[f5];cbv;refine⟨_,A .aC .add .i64 y 1,aF,by constructor<;>cbv,AY⟩
 rw[decide_eq_false c4];have IB:j=i:=by omega
 subst IB;rw[if_pos (List.all_eq_true.2 λx hx=>by
  obtain⟨a,ha⟩:=List.mem_iff_getElem?.1 hx;exact decide_eq_true (bp a x (by have:=(List.getElem?_eq_some_iff.1 ha).1;omega) ha))]at P
 have oY:=F f;clear M F Q jM f4;cbv;refine(zA (K.mono (N.t _))).mono (λv L hR=>?_);obtain⟨l7,u,c',rfl,s7⟩:=hR;have:=oY L u H c' P ((l5.trans N).trans l7) s7.sl (by omega);clear oY;cbv;exact this
theorem zS{c:Nat}{s:List Int}(q:Sl 3 cN h (.slice b n c) s)(W:n<=8)(D:∀h' a n' c',Le h h'->aU 5 bL h h' (.slice a n' c') (s.map bR).flatten->k (.slice a n' c') h'):
 Ct 255 [.slice none 0 0,.slice b n c] h k:=by
 have E:=q.len;obtain⟨J,Z⟩:∃J:Nat->((Option Addr×Nat×Nat)×Int)->ab->Prop,∀w g h',J w g h'=(∃i,aK g.2 i/\w=n-i/\i<=n/\Le h h'/\aU 5 bL h h' (.slice g.1.1 g.1.2.1 g.1.2.2) ((s.take i).map bR).flatten/\((s.take i).map bR).flatten.length=8*i):=⟨_,λ_ _ _=>rfl⟩;have m:J n ((none,0,0),0) h:=by rw[Z];exact⟨0,⟨rfl⟩,rfl,by omega,Le.refl _,aU.nil,rfl⟩
 refine an dXI Tryz.func255 λA M=>?_;cbv;refine aG.go (G:=(Option Addr×Nat×Nat)×Int) (λg=>[(0,.v (.slice g.1.1 g.1.2.1 g.1.2.2)),(9,.v (.int .i64 g.2))]) (λ_=>[]) (λw g h'=>J w g h') n ((none,0,0),0) (by constructor<;>cbv) m ?_
 intro w g f B;rw[Z]at B;cbv;obtain⟨⟨v,p,y⟩,z⟩:=g;obtain⟨i,d,X,V,l,e,T⟩:=B;have d:aK z i:=d;have e:aU 5 bL h f (.slice v p y) ((s.take i).map bR).flatten:=e;have Y:=e.sl.len;have u:A .ay .lss z (A .nat n)=decide (i<n):=by rw[aD A,d.eq,M.nat];exact decide_eq_decide.2 (by show(i:Int)<(n:Int)↔_;omega)
 rw[u];by_cases j:i<n
 .rw[decide_eq_true j];obtain⟨x,hx⟩:=bn s i;have ix:=d.ix j;have N:b.isSome=true:=q.aQ;have H:n-(i+1)<w:=by omega
  have I:∀a m' c' h',Le f h'->aU 5 bL f h' (.slice a m' c') (((s.take i).map bR).flatten++bR x)->J (n-(i+1)) ((a,m',c'),A .aC .add .i64 z 1) h':=λa m' c' h' O R=>by
   rw[Z];have C:((s.take (i+1)).map bR).flatten=((s.take i).map bR).flatten++bR x:=by rw[List.take_add_one,hx];simp
   exact⟨i+1,d.succ (A:=A),rfl,j,l.trans O,by rw[C];exact R.base l,by rw[C,List.length_append,bW];omega⟩
  have Q:p<=2^37:=by omega
  clear u Z m;generalize ((s.take i).map bR).flatten=L at *;cbv;refine⟨⟨N,ix⟩,?_⟩;cbv;refine(q.mono (l.t _)).load hx d.eq (λcs o=>?_);have o:cs=[.int .i64 x]:=o;subst o;cbv;refine LO e.sl Q x (λK r F t P S=>?_);have U:=I r F t K P S;clear I;cbv;refine⟨_,((r,F,t),A .aC .add .i64 z 1),H,by constructor<;>cbv,U⟩
 rw[decide_eq_false j];rw[List.take_of_length_le (by omega)]at e;have:=D f v p y l e;clear Z m D;cbv;exact this
structure AH(c:cC):Prop where
 row:c.row.length<=2^16
 aJq:c.table.size<=2^40
 val:∀x∈c.row,x.s.size<=2^40
theorem Wx{i:Int}{e:Nat}(U:aK z e){t:ByteArray}{o:Int}{r:Row}{c:Nat}(q:Sl 45 aS h (.slice b n c) r)(B:AH ⟨t,o,r⟩)
 (j:∀h' g,Le h h'->hl g=aI (cP i e ⟨t,o,r⟩)->k (.agg (List.toArray (hl g))) h'):
 Ct 134 [.int .i64 i,.int .i64 z,.agg #[.string t,.int .i64 o,.slice b n c]] h k:=by
 have m:=q.len;have rL:r.length<=2^16:=B.row;have lD:t.size<=2^40:=B.aJq;have T:∀x∈r,x.s.size<=2^40:=B.val;have H:cP i e ⟨t,o,r⟩=wT (bR i++bR z++[u8 o]++dY t++dY (strOf (fH r))):=by rw[U.eq];rfl
 rw[H]at j;clear H B;refine an dJD Tryz.func134 λA hA=>?_;cbv;intro w d N e1;have V:Le h d:=by rw[e1];exact Le.set N
 have q1:Sl 3 cN d (.slice (some ⟨w,0,none⟩) 2 2) [i,z]:=mM (s:=cN) rfl ((congrFun e1 w).trans ae) rfl rfl;clear e1;cbv;refine zS q1 (by decide) (λl I m2 K X a=>?_);have Y:=a.sl.len;have a:aU 5 bL d l (.slice I m2 K) (bR i++bR z):=by simpa using a
 have Y:=a.sl.len;rw[List.length_append,bW,bW]at Y;cbv;refine oe a.sl (by omega) o (λh3 b3 m3 c3 l3 C=>?_);have M:=C.sl.len;rw[List.length_append,List.length_append,bW,bW,List.length_singleton]at M;cbv;refine xQ (e1:=0) C.sl (by omega) t lD (λh4 b4 m4 c4 l4 D=>?_);have zX:=D.sl.len;have yS:=fj t;unfold dY at yS;rw[List.length_append,List.length_append,List.length_append,bW,bW,List.length_singleton]at zX;have y:=((V.trans X).trans l3).trans l4;cbv;refine Jt (q.mono (y.t _)) (by omega) T (λh5 b5 m5 c5 p q5 R=>?_);have E:(strOf (fH r)).size<=2^40:=by show(fH r).toArray.size<=_;rw[List.size_toArray];omega
 have G:=D.sl.mono (p.t _);obtain⟨v,F⟩:∃v,v=strOf (fH r):=⟨_,rfl⟩;rw[<-F]at j E;cbv;refine qi q5.sl ?_;rw[<-F];cbv;refine xQ (e1:=0) G (by omega) v E (λO J u L l6 f=>?_);have f:Sl 5 bL O (.slice J u L) (bR i++bR z++[u8 o]++dY t++dY v):=f.sl;have P:=f.len;have d:=fj t;have l:=fj v;simp only[List.length_append,List.length_cons,List.length_nil,bW]at P;have Z:u<=2^37:=by omega
 generalize bR i++bR z++[u8 o]++dY t++dY v=W at *;cbv;refine aZW f (by decide) Z (λQ g l7 S=>?_);have:=j Q g (((y.trans p).trans l6).trans l7) S;cbv;exact this
theorem wD{c:cC}(h:L[i]? =some c):(gC d L)[i]? =some (cP d i c):=by unfold gC;rw[List.getElem?_mapIdx,h];rfl
theorem wC(i:Int)(L:List cC):(gC i L).length=L.length:=by unfold gC;simp
theorem pj{a:Type}{L:List a}{x:a}(h:L[i]? =some x):L.take (i+1)=L.take i++[x]:=by rw[List.take_add_one,h];rfl
theorem LM{c:Nat}(q:Sl 161 aV h (.slice b n c) L)(hB:∀x∈L,AH x)(hn:n<=2^30)
 (N:∀h' g,Le h h'->hl g=aI (eS d L)->(eS d L).length=32->k (.agg (List.toArray (hl g))) h'):Ct 135 [.agg #[.int .i64 d,.slice b n c]] h k:=by
 have O:=q.len;have I:eS d L=fL (gC d L):=rfl;rw[I]at N;have Zd:=wC d L;have Q:∀ {i:Nat} {c:cC},L[i]? =some c->(gC d L)[i]? =some (cP d i c):=λh=>wD h;generalize gC d L=H at *;clear I;obtain⟨J,Z⟩:∃J:Nat->((Option Addr×Nat×Nat)×Int)->ab->Prop,∀w g h',J w g h'=(∃i,aK g.2 i/\w=n-i/\i<=n/\Le h h'/\aU 100 yA h h' (.slice g.1.1 g.1.2.1 g.1.2.2) (H.take i)):=⟨_,λ_ _ _=>rfl⟩;have m:J n ((none,0,0),0) h:=by rw[Z];exact⟨0,⟨rfl⟩,rfl,by omega,Le.refl _,aU.nil⟩
 refine an dJC Tryz.func135 λA hA=>?_;cbv;refine aG.go (G:=(Option Addr×Nat×Nat)×Int) (λg=>[(3,.v (.slice g.1.1 g.1.2.1 g.1.2.2)),(9,.v (.int .i64 g.2))]) (λ_=>[(1,[.int .i64 d,.slice b n c]),(2,List.replicate 32 (.int .u8 0))]) (λw g h'=>J w g h') n ((none,0,0),0) (by constructor<;>cbv) m ?_
 intro w g F M;rw[Z]at M;cbv;obtain⟨⟨gb,E,gc⟩,z⟩:=g;obtain⟨i,a,hw,hi,u,e⟩:=M;have a:aK z i:=a;have e:aU 100 yA h F (.slice gb E gc) (H.take i):=e;have nj:=e.sl.len;rw[List.length_take]at nj;have D:A .ay .lss z (A .nat n)=decide (i<n):=by rw[aD A,a.eq,hA.nat];exact decide_eq_decide.2 (by show(i:Int)<(n:Int)↔_;omega)
 rw[D];by_cases f:i<n
 .rw[decide_eq_true f];obtain⟨x,hx⟩:=bn L i;have U:=hB x (List.mem_of_getElem? hx);have ix:=a.ix f;have iU:b.isSome=true:=q.aQ;have W:n-(i+1)<w:=by omega
  have P:=pj (Q hx);have B:∀j m' c' h',Le h h'->aU 100 yA h h' (.slice j m' c') (H.take i++[cP d i x])->J (n-(i+1)) ((j,m',c'),A .aC .add .i64 z 1) h':=λj m' c' h' l' q'=>by
   rw[Z];exact⟨i+1,a.succ (A:=A),rfl,f,l',by rw[P];exact q'⟩
  have nq:E+1<=2^39:=by omega
  have qG:(cP d i x).length=32:=fw _;clear D Z m P Q;generalize H.take i=Lc at *;obtain⟨tb,op,r⟩:=x;cbv;refine⟨⟨iU,ix⟩,?_⟩;cbv;refine(q.mono (u.t _)).load hx a.eq (λcs Y=>?_);obtain⟨rb,rn,rc,rfl,v⟩:=Y;have v:Sl 45 aS F (.slice rb rn rc) r:=v;cbv;refine Wx a v U (λp g l t=>?_);generalize cP d i ⟨tb,op,r⟩=RH at *;cbv;intro n4 K V o;have R:Le p K:=by rw[o];exact Le.set V
  have q4:=aR (s:=yA) (cs:=hl g) ((congrFun o n4).trans ae) (Fo (h:=K) t qG);clear o;cbv;refine(e.mono ((l.trans R).t _)).append q4 (by decide) rfl (by decide) nq ((u.trans l).trans R) (λS y C h5 X l5 t5 k5 q5=>?_);have gU:=B y S C h5 l5 q5;clear B k5;cbv;refine⟨_,((y,S,C),A .aC .add .i64 z 1),W,by constructor<;>cbv,gU⟩
 rw[decide_eq_false f];rw[List.take_of_length_le (by omega)]at e;clear Z m Q;cbv;refine aZS _ e.sl (Nat.le_refl _) (λp g l t T=>?_);have:=N p g (u.trans l) t T;cbv;exact this
theorem bJe{i:Int}{c:Nat}(q:Sl 161 aV h (.slice b n c) L)(P:∀x∈L,AH x)(S:n<=2^30)
 (r:∀h' g,Le h h'->hl g=aI (lU i L)->k (.agg (List.toArray (hl g))) h'):Ct 245 [.agg #[.int .i64 i,.slice b n c]] h k:=by
 obtain⟨A,O⟩:=Ar.ex;have l:=q.len;have E:lU i L=wT (bR i++bR (A .nat n)++eS i L):=by rw[O.nat,l];rfl
 rw[E]at r;clear E;refine bB dXQ A Tryz.func245 ?_;cbv;refine LM q P S (λK g t Q C=>?_);generalize eS i L=R at *;cbv;intro m o Z e;have U:Le K o:=by rw[e];exact Le.set Z
 have G:o m=some (.cells (List.toArray (List.replicate 32 (.int .u8 0))) 100 (0,0)):=(congrFun e m).trans ae;have z2:=t.none Z;clear e;cbv;refine jr G (Nat.le_refl _) (λp d=>?_);have H:=tM d (AK _ _);have V:Le h p:=(t.trans U).aE (bs:=[m]) (by simpa using z2) (by rw[d];exact Kp.set (by simp));clear d;cbv;intro w j F f;have u:Le p j:=by rw[f];exact Le.set F
 have q4:Sl 3 cN j (.slice (some ⟨w,0,none⟩) 2 2) [i,A .nat n]:=mM (s:=cN) rfl ((congrFun f w).trans ae) rfl rfl;clear f;cbv;refine zS q4 (by decide) (λM z Y B v a=>?_);have a:aU 5 bL j M (.slice z Y B) (bR i++bR (A .nat n)):=by simpa using a
 have J:=a.sl.len;rw[List.length_append,bW,bW]at J;have I:=v _ _ (u _ _ H);cbv;refine a.app (mf I Q C) (by decide) rfl (by decide) (by omega) v (λm6 b6 c6 h6 Pf W t6 T q6=>?_);clear T;cbv;refine aZW q6.sl (by decide) (by omega) (λN D X y=>?_);have:=r N D ((V.trans u).trans (W.trans X)) y;cbv;exact this
def Xj(n:Int)(p r:Nat->Int)(c:Int):List Value:=[.int .i64 n,.int .u8 (p 0),.int .u8 (p 1),.int .u8 (p 2),.int .u8 (p 3),.int .u8 (p 4),.int .u8 (p 5),.int .u8 (p 6),.int .u8 (p 7),.int .u8 (p 8),.int .u8 (p 9),.int .u8 (p 10),.int .u8 (p 11),.int .u8 (p 12),.int .u8 (p 13),.int .u8 (p 14),.int .u8 (p 15),.int .u8 (p 16),.int .u8 (p 17),.int .u8 (p 18),.int .u8 (p 19),.int .u8 (p 20),.int .u8 (p 21),.int .u8 (p 22),.int .u8 (p 23),.int .u8 (p 24),.int .u8 (p 25),.int .u8 (p 26),.int .u8 (p 27),.int .u8 (p 28),.int .u8 (p 29),.int .u8 (p 30),.int .u8 (p 31),.int .u8 (r 0),.int .u8 (r 1),.int .u8 (r 2),.int .u8 (r 3),.int .u8 (r 4),.int .u8 (r 5),.int .u8 (r 6),.int .u8 (r 7),.int .u8 (r 8),.int .u8 (r 9),.int .u8 (r 10),.int .u8 (r 11),.int .u8 (r 12),.int .u8 (r 13),.int .u8 (r 14),.int .u8 (r 15),.int .u8 (r 16),.int .u8 (r 17),.int .u8 (r 18),.int .u8 (r 19),.int .u8 (r 20),.int .u8 (r 21),.int .u8 (r 22),.int .u8 (r 23),.int .u8 (r 24),.int .u8 (r 25),.int .u8 (r 26),.int .u8 (r 27),.int .u8 (r 28),.int .u8 (r 29),.int .u8 (r 30),.int .u8 (r 31),.int .i64 c]
theorem vF(n:Int)(p r:Nat->Int)(c:Int):Xj n p r c=.int .i64 n::(hl p++(hl r++[.int .i64 c])):=rfl
def nJ:Sh xT where
 n:=66
 R _ cs b:=cs=.int .i64 b.n::(aI b.prev++(aI b.root++[.int .i64 b.count]))/\b.prev.length=32/\b.root.length=32
 len:=by rintro h cs b ⟨rfl,h1,h2⟩;simp[aI,h1,h2]
 one:=by
  rintro h cs b ⟨rfl,h1,h2⟩;have key:∀l m:List Value,iA l=true->iA m=true->iA (l++m)=true:=λl m a b=>by
   induction l with
   |nil=>exact b
   |cons x t ih=>
    unfold iA at a;split at a
    .rename_i hx;show iA (x::(t++m))=true;unfold iA;rw[hx];exact ih a
    cases a
  show iA (_::_)=true;unfold iA;exact key _ _ (gD _) (key _ _ (gD _) rfl)
 tys:=[]
 mono:=λ_ q=>q
theorem wJ{T o:Nat}{x:Bs}(q:h n=some (.cells (List.toArray c) T (0,0)))(b:(c.drop o).take 32=aI x)(hx:x.length=32):Sl T bL h (.slice (some ⟨n,o,none⟩) 32 32) x:=by
 refine⟨_,32,by rw[hx],by omega,by omega,.inr ⟨n,o,_,_,rfl,q,?_,λi y e=>?_⟩⟩
 .have:=congrArg List.length b;rw[List.length_take,List.length_drop]at this;simp only[aI,List.length_map]at this;have f:bL.n=1:=rfl;rw[f];simp only[List.toArray,hx]at *;omega
 have g:i<x.length:=(List.getElem?_eq_some_iff.1 e).1;show((c.drop (o+i*1)).take 1)=[.int .u8 (y.toNat:Int)];have a:=congrArg (λl=>l[i]?) b;simp only[List.getElem?_take,List.getElem?_drop,aI,List.getElem?_map,e]at a;rw[if_pos (by omega)]at a;apply List.ext_getElem?;intro j;rw[List.getElem?_take,List.getElem?_drop];by_cases d:j<1
 .have:j=0:=by omega
  subst this;rw[if_pos d,Nat.mul_one,Nat.add_zero,a];rfl
 rw[if_neg d,List.getElem?_eq_none (by simp;omega)]
theorem aZY{n m:Int}{gp gr:Nat->Int}{p r:Bs}(hp:hl gp=aI p)(hr:hl gr=aI r)(Iw:p.length=32)(qG:r.length=32)
 (V:∀h' g,Le h h'->hl g=aI (dN ⟨n,p,r,m⟩)->k (.agg (List.toArray (hl g))) h'):Ct 185 [.agg (List.toArray (Xj n gp gr m))] h k:=by
 have hH:dN ⟨n,p,r,m⟩=On ([bR n,p,r,bR m]:List Bs).flatten:=by unfold dN VE;simp
 have X:([bR n,p,r,bR m]:List Bs).flatten.length<=2^38:=by simp only[List.flatten_cons,List.flatten_nil,List.length_append,List.length_nil,bW];omega
 rw[hH]at V;clear hH;refine an dZQ Tryz.func185 λA hA=>?_;cbv;intro n1 S ek e1;have la:Le h S:=by rw[e1];exact Le.set ek
 have z:S n1=some (.cells (List.toArray (Xj n gp gr m)) 224 (0,0)):=(congrFun e1 n1).trans ae;have sp:=wJ (o:=1) (x:=p) z (by rw[vF,<-hp];rfl) Iw;have sr:=wJ (o:=33) (x:=r) z (by rw[vF,<-hr];rfl) qG;clear e1;cbv;rw[al A];refine ak z ?_;cbv;rw[al A,al A,al A];refine ak z ?_;cbv;refine⟨?_,?_⟩
 .skip;intro N x0 Y y;have B:Le S x0:=by rw[y];exact Le.set Y
  have W:Sl 3 cN x0 (.slice (some ⟨N,0,none⟩) 1 1) [n]:=aR (s:=cN) ((congrFun y N).trans ae) rfl;clear y;cbv
  (try rw[al A])
  refine ak (B _ _ z) ?_;cbv;refine⟨⟨_,rfl,rfl⟩,?_⟩;cbv;refine⟨?_,?_⟩
  .skip;refine zS W (by decide) (λa bb J D f q=>?_);have q:aU 5 bL x0 a (.slice bb J D) (bR n):=by simpa using q
   cbv
   (try rw[al A])
   refine ak ((B.trans f) _ _ z) ?_;cbv;refine⟨⟨_,rfl,rfl⟩,?_⟩;cbv;intro u b U Z;have j:Le a b:=by rw[Z];exact Le.set U
   have O:Sl 3 cN b (.slice (some ⟨u,0,none⟩) 1 1) [m]:=aR (s:=cN) ((congrFun Z u).trans ae) rfl;clear Z;cbv;refine zS O (by decide) (λw C K E t d=>?_);have d:aU 5 bL b w (.slice C K E) (bR m):=by simpa using d
   cbv;intro M R Q e;have l:Le w R:=by rw[e];exact Le.set Q
   have F:=(congrFun e M).trans ae;have T:=(((B.trans f).trans j).trans t).trans l;have s1:=(((q.sl.mono (j.t _)).mono (t.t _)).mono (l.t _));have P:=(d.sl.mono (l.t _));have s2:=sp.mono (T.t _);have s3:=sr.mono (T.t _);clear e;cbv;refine LI (L:=[bR n,p,r,bR m]) (FM (s:=Ah) rfl F rfl (by show 4<=2^40;decide) (λi v x c hx=>?_) rfl) X (λG g I H=>?_)
   .have hi:i<4:=(List.getElem?_eq_some_iff.1 c).1;have:i=0\/i=1\/i=2\/i=3:=by omega
    rcases this with rfl|rfl|rfl|rfl<;>cases c<;>cases hx
    .exact dE s1
    .exact dE s2
    .exact dE s3
    exact dE P
   have:=V G g ((la.trans T).trans I) H;cbv;exact this
  skip;intro u a U e1;have f:Le x0 a:=by rw[e1];exact Le.set U
  have O:Sl 3 cN a (.slice (some ⟨u,0,none⟩) 1 1) [m]:=aR (s:=cN) ((congrFun e1 u).trans ae) rfl;clear e1;cbv;refine zS (W.mono (f.t _)) (by decide) (λb bb J D j q=>?_);have q:aU 5 bL a b (.slice bb J D) (bR n):=by simpa using q
  cbv;refine zS (O.mono (j.t _)) (by decide) (λw C K E t d=>?_);have d:aU 5 bL b w (.slice C K E) (bR m):=by simpa using d
  cbv;intro M R Q e;have l:Le w R:=by rw[e];exact Le.set Q
  have F:=(congrFun e M).trans ae;have T:=(((B.trans f).trans j).trans t).trans l;have s1:=((q.sl.mono (t.t _)).mono (l.t _));have P:=(d.sl.mono (l.t _));have s2:=sp.mono (T.t _);have s3:=sr.mono (T.t _);clear e;cbv;refine LI (L:=[bR n,p,r,bR m]) (FM (s:=Ah) rfl F rfl (by show 4<=2^40;decide) (λi v x c hx=>?_) rfl) X (λG g I H=>?_)
  .have hi:i<4:=(List.getElem?_eq_some_iff.1 c).1;have:i=0\/i=1\/i=2\/i=3:=by omega
   rcases this with rfl|rfl|rfl|rfl<;>cases c<;>cases hx
   .exact dE s1
   .exact dE s2
   .exact dE s3
   exact dE P
  have:=V G g ((la.trans T).trans I) H;cbv;exact this
 skip;intro u x0 U y;have B:Le S x0:=by rw[y];exact Le.set U
 have O:Sl 3 cN x0 (.slice (some ⟨u,0,none⟩) 1 1) [m]:=aR (s:=cN) ((congrFun y u).trans ae) rfl;clear y;cbv
 (try rw[al A])
 refine ak (B _ _ z) ?_;cbv;refine⟨⟨_,rfl,rfl⟩,?_⟩;cbv;intro N a Y e1;have f:Le x0 a:=by rw[e1];exact Le.set Y
 have W:Sl 3 cN a (.slice (some ⟨N,0,none⟩) 1 1) [n]:=aR (s:=cN) ((congrFun e1 N).trans ae) rfl;clear e1;cbv;refine zS W (by decide) (λb bb J D j q=>?_);have q:aU 5 bL a b (.slice bb J D) (bR n):=by simpa using q
 cbv;refine zS ((O.mono (f.t _)).mono (j.t _)) (by decide) (λw C K E t d=>?_);have d:aU 5 bL b w (.slice C K E) (bR m):=by simpa using d
 cbv;intro M R Q e;have l:Le w R:=by rw[e];exact Le.set Q
 have F:=(congrFun e M).trans ae;have T:=(((B.trans f).trans j).trans t).trans l;have s1:=((q.sl.mono (t.t _)).mono (l.t _));have P:=(d.sl.mono (l.t _));have s2:=sp.mono (T.t _);have s3:=sr.mono (T.t _);clear e;cbv;refine LI (L:=[bR n,p,r,bR m]) (FM (s:=Ah) rfl F rfl (by show 4<=2^40;decide) (λi v x c hx=>?_) rfl) X (λG g I H=>?_)
 .have hi:i<4:=(List.getElem?_eq_some_iff.1 c).1;have:i=0\/i=1\/i=2\/i=3:=by omega
  rcases this with rfl|rfl|rfl|rfl<;>cases c<;>cases hx
  .exact dE s1
  .exact dE s2
  .exact dE s3
  exact dE P
 have:=V G g ((la.trans T).trans I) H;cbv;exact this
set_option maxHeartbeats 8000000
structure WP(l:Bs)(i:Nat)(xs:List W):Prop where
 len:xs.length=64
 get:∀j,j<i->xs[j]? =some (wF l j)
structure RS(h h':ab)(n3 n4 n8:Nat)(kg:Nat->Int)(S:W8)(xs:List W)(tv:Value)(T:Bs):Prop where
 le:Le h h'
 g3:h' n3=some (.cells (List.toArray (wl kg)) 355 (0,0))
 o4:cA 357 nD h' n4 8 S.l
 o8:cA 355 nD h' n8 64 xs
 st:Sl 5 bL h' tv T
end Go.S
