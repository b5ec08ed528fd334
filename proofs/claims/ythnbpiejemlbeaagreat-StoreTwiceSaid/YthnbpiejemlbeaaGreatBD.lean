import Derived.Test.YthnbpiejemlbeaaGreatBC
set_option linter.all false
set_option maxRecDepth 100000
set_option maxHeartbeats 8000000
namespace Go.S
open Go.Sx Go.Proofs
variable {only:Bool}{nm:ByteArray}{d:DB}{key:Int}{G:Lg}{a c n p s:Nat}{b:Option Addr}{k:Value->ad->Prop}{L:Value×Value×Value×Value}{h:ad}
def Nv(G:Lg)(d:DB)(D:DB×Int)(l:Bs):Int×Lg×DB:=
 if D.2≠0 then(D.2,G,d)else((aY G l).1,(aY G l).2,if(aY G l).1=0 then D.1 else d)
def gH(G:Lg)(d:DB)(x:tE):Int×Lg×DB:=Nv G d (cf d x) (fv x)
def nG(G:Lg)(d:DB)(nm:ByteArray):Int×Lg×DB:=Nv G d (eD d nm) (fo nm)
theorem Da.lx{h':ad}(q:Da h s p G d L)(l:Le h h'):Da h' s p G d L:=by obtain⟨g,x,b,a,k,c⟩:=q.out;exact⟨g,x,⟨l _ _ b.out⟩,a.lt (l.t _),k.le l,c.le l⟩
theorem bQv(q:Da h s p G d L){b:List jF}{z:Option Addr}{t E:Nat}(y:Sl 202 bH h (.slice z t E) b)
 (Y:t<=2^16) (P:nm.size<=2^40) (S:∀x∈b,x.name.size<=2^40) (sm:Small d) (W:G.s<=2^29) (V:G.n<=2^29) (X:G.D.ws.length<=2^28) 
 (c:∀h',dX IK h h'->Da h' s p (gH G d ⟨nm,b,key,only⟩).2.1 (gH G d ⟨nm,b,key,only⟩).2.2 L->k (.int .i64 (gH G d ⟨nm,b,key,only⟩).1) h'):
 Ct 36 [.zP s,.agg #[.string nm,.slice z t E,.int .i64 key,.bool only]] h k:=by
 obtain⟨g,x,K,ql,qk,qx⟩:=q.out;obtain⟨b1,n1,c1,b2,n2,c2,b3,n3,c3,b4,n4,c4,r,qd⟩:=qx.out;have a:gH G d ⟨nm,b,key,only⟩=Nv G d (cf d ⟨nm,b,key,only⟩) (fv ⟨nm,b,key,only⟩):=rfl;have tq:(fv ⟨nm,b,key,only⟩).length<=65538:=by unfold fv;have:=sw (strOf (uN ⟨nm,b,key,only⟩));rw[cy,qA];omega
 refine cg hKn Tryz.func36 λA hA=>?_;cbv;rw[av A];refine yJ (cm K.out rfl) r rfl ?_;cbv;rw[av A];refine cr r ?_;cbv;refine Cx qd y sm (D:=cf d ⟨nm,b,key,only⟩) rfl (λu N vR M Q nS O jo qJ Z F H uV l I=>?_);have v:=q.lx l;have B:=l _ _ r;have o:=y.mono (l.t _);generalize cf d ⟨nm,b,key,only⟩=C at *;obtain⟨n,f⟩:=C;have I:fE u (.agg #[.slice N vR M,.slice Q nS O,.slice jo qJ Z,.slice F H uV]) n:=I;have i:A .aN .neq f 0=decide (f≠0):=az A ..;by_cases j:f≠0
 .have a:gH G d ⟨nm,b,key,only⟩=(f,G,d):=by rw[a];exact if_pos j
  rw[a]at c;have:=c u (l.x _) v;rw[ak j]at i;clear c a;cbv;rw[i];cbv;exact this
 have a:gH G d ⟨nm,b,key,only⟩=((aY G (fv ⟨nm,b,key,only⟩)).1,(aY G (fv ⟨nm,b,key,only⟩)).2,if(aY G (fv ⟨nm,b,key,only⟩)).1=0 then n else d):=by rw[a];exact if_neg j
 rw[a]at c;rw[bn j]at i;clear a;cbv;rw[i];cbv;rw[av A];refine cr B ?_;cbv;refine cZp o Y P S (λT rb rn rc m w=>?_);have tC:=m _ _ B;have AH:=w.sl.len;generalize fv ⟨nm,b,key,only⟩=rec at *;have J:∀h',dX IK T h'->Da h' s p (aY G rec).2 (if(aY G rec).1=0 then n else d) L->k (.int .i64 (aY G rec).1) h':=λh' x' w'=>c h' (((l.trans m).x _).trans x') w';cbv;refine cr tC ?_;cbv;refine⟨⟨_,rfl,rfl⟩,?_⟩;cbv;refine dKf (v.lx m) w.sl W V (by omega) X (I.mono m) (λU x5 w5=>?_);have:=J U x5 w5;generalize aY G rec=R at *;obtain⟨e,G2⟩:=R;cbv;exact this
theorem eJX(q:Da h s p G d L)(nm:ByteArray)(w:nm.size<=2^40)(N:G.s<=2^29)(M:G.n<=2^29)(O:G.D.ws.length<=2^28)
 (b:∀h',dX IK h h'->Da h' s p (nG G d nm).2.1 (nG G d nm).2.2 L->k (.int .i64 (nG G d nm).1) h'):
 Ct 67 [.zP s,.string nm] h k:=by
 obtain⟨g,x,K,ql,qk,W⟩:=q.out;obtain⟨b1,n1,c1,b2,n2,c2,b3,n3,c3,b4,n4,c4,n,V⟩:=W.out;have a:nG G d nm=Nv G d (eD d nm) (fo nm):=rfl;have tq:(fo nm).length<=65538:=by unfold fo;have:=sw nm;rw[cy,qA];omega
 refine cg hJP Tryz.func67 λA hA=>?_;cbv;rw[av A];refine yJ (cm K.out rfl) n rfl ?_;cbv;rw[av A];refine cr n ?_;cbv;refine Rb V nm (D:=eD d nm) rfl (λo E Z H Q T v S U P y F Y l I=>?_);have r:=q.lx l;have B:=l _ _ n;generalize eD d nm=C at *;obtain⟨m,c⟩:=C;have I:fE o (.agg #[.slice E Z H,.slice Q T v,.slice S U P,.slice y F Y]) m:=I;have f:A .aN .neq c 0=decide (c≠0):=az A ..;by_cases i:c≠0
 .have a:nG G d nm=(c,G,d):=by rw[a];exact if_pos i
  rw[a]at b;have:=b o (l.x _) r;rw[ak i]at f;clear b a;cbv;rw[f];cbv;exact this
 have a:nG G d nm=((aY G (fo nm)).1,(aY G (fo nm)).2,if(aY G (fo nm)).1=0 then m else d):=by rw[a];exact if_neg i
 rw[a]at b;rw[bn i]at f;clear a;cbv;rw[f];cbv;rw[av A];refine cr B ?_;cbv;refine bQu nm w (λz rb rn rc j t=>?_);have X:=j _ _ B;have AH:=t.sl.len;generalize fo nm=rec at *;have u:∀h',dX IK z h'->Da h' s p (aY G rec).2 (if(aY G rec).1=0 then m else d) L->k (.int .i64 (aY G rec).1) h':=λh' x' w'=>b h' (((l.trans j).x _).trans x') w';cbv;refine cr X ?_;cbv;refine⟨⟨_,rfl,rfl⟩,?_⟩;cbv;refine dKf (r.lx j) t.sl N M (by omega) O (I.mono j) (λJ x5 w5=>?_);have:=u J x5 w5;generalize aY G rec=R at *;obtain⟨e,G2⟩:=R;cbv;exact this
theorem pt{a:Type}{xs:List a}{x x0:a}{i:Nat}(hx:xs[i]? =some x)(c:i<n)(d:n=xs.length):(xs.take i++List.replicate (n-i) x0).set i x=xs.take (i+1)++List.replicate (n-(i+1)) x0:=by
 have h:n-i=(n-(i+1))+1:=by omega
 have b:(xs.take i).length=i:=by rw[eA];omega
 rw[h,kXl,kQN _ _ (by omega),b,GD,List.set_cons_zero,qM,hx];simp
theorem aQn{xs:Row}(q:Sl 45 bA h (.slice b n c) xs)(d:∀h' a c',Le h h'->Sl 45 bA h' (.slice a n c') xs->k (.slice a n c') h'):
 Ct 223 [.slice b n c] h k:=by
 refine cg eXO Tryz.func223 λA j=>?_;cbv;refine(CA q).mono (λv i hR=>?_);obtain⟨l,f,g,rfl,e⟩:=hR;cbv;exact d _ _ _ l e.sl
theorem bQt{xs:List Row}(q:Sl 46 bF h (.slice b n c) xs)(M:∀h' f c',Le h h'->Sl 46 bF h' (.slice f n c') xs->k (.slice f n c') h'):
 Ct 222 [.slice b n c,.func (.func 223) #[] #[]] h k:=by
 have l:=q.len;obtain⟨kW,gZ⟩:=q.bound;have Y:∀h,bF.R h [.slice none 0 0] []:=λh=>⟨_,rfl,Sl.nil⟩;refine cg eXP Tryz.func222 λA K=>?_;cbv;refine jy (s:=bF) (x:=[]) Y (by omega) (by decide) (λe E C Q o1=>?_);obtain⟨J,D⟩:∃J:Nat->Int->ad->Prop,∀w z h',J w z h'=(∃i,aZ z i/\w=n-i/\i<=n/\Le h h'/\cZ 46 bF h' e n (xs.take i++List.replicate (n-i) [])):=⟨_,λ_ _ _=>rfl⟩;have L:J n 0 E:=by rw[D];exact⟨0,⟨rfl⟩,rfl,by omega,Q,o1⟩
 cbv;refine aX.go (G:=Int) (λz=>[(13,.v (.int .i64 z))]) (λ_=>[]) (λw z h'=>J w z h') n 0 (by constructor<;>cbv) L ?_
 intro w z H I;rw[D]at I;cbv;obtain⟨i,a,hw,hi,g,o2⟩:=I;have fl:A .aN .lss z (A .nat n)=decide (i<n):=by rw[aR A,a.eq,K.nat];exact decide_eq_decide.2 (by show(i:Int)<(n:Int)↔_;omega)
 rw[fl];by_cases d:i<n
 .obtain⟨x,hx⟩:=cB xs i;have ix:=a.ix d;have U:n-(i+1)<w:=by omega
  have S:=a.succ (A:=A);have V:=pt (x0:=[]) hx d l;have N:i<(xs.take i++List.replicate (n-i) ([]:Row)).length:=by rw[cy,yl,eA];omega
  have X:∀h',Le h h'->cZ 46 bF h' e n (xs.take (i+1)++List.replicate (n-(i+1)) [])->J (n-(i+1)) (A .aT .add .i64 z 1) h':=λh' P o'=>by
   rw[D];exact⟨i+1,S,rfl,by omega,P,o'⟩
  rw[ak d];clear fl D L;generalize xs.take i++List.replicate (n-i) []=ys at *;generalize xs.take (i+1)++List.replicate (n-(i+1)) []=zs at *;cbv;refine⟨⟨q.bp,ix⟩,?_⟩;cbv;refine(q.mono (g.t _)).load hx a.eq (λcs y=>?_);obtain⟨v,rfl,p⟩:=y;obtain⟨r,u,t,rfl⟩:∃r u t,v=.slice r u t:=by obtain⟨f,cap,e1,-⟩:=p.out;exact⟨_,_,_,e1⟩
  cbv;refine aQn p (λh3 W Z m T=>?_);cbv;refine⟨⟨rfl,ix⟩,?_⟩;cbv;refine(o2.mono (m.t _)).setAt (by decide) (i:=i) N a.eq rfl ⟨_,rfl,T⟩ (λj O t4 o=>?_);rw[V]at o;have R:Le h j:=(g.trans m).aV (bs:=[e]) (by simpa using C) O;have:=X j R o;clear X;cbv;refine⟨n-(i+1),A .aT .add .i64 z 1,U,by constructor<;>cbv,this⟩
 have B:i=n:=by omega
 have F:xs.take i++List.replicate (n-i) []=xs:=by rw[B,GD,ie (by omega)];simp
 rw[F]at o2;have:=M H (zsA e) n g (o2.sl l);rw[bn d];cbv;exact this
def IN:ca:=⟨⟨⟨#[]⟩,[],0,false⟩,[]⟩
def uU:cV:=⟨⟨#[]⟩,0,[]⟩
theorem cZA{c:Option Addr}{d e:Nat}{B:List jF}{r:List Row}(u:Sl 202 bH h (.slice b n d) B)(w:Sl 46 bF h (.slice c a e) r)
 (t:∀h' g f Q i,Le h h'->Sl 202 bH h' (.slice g n f) B->Sl 46 bF h' (.slice Q a i) r->k (.agg #[.string nm,.slice g n f,.int .i64 key,.bool only,.slice Q a i]) h'):
 Ct 106 [.agg #[.string nm,.slice b n d,.int .i64 key,.bool only,.slice c a e]] h k:=by
 refine cg eJD Tryz.func106 λA C=>?_;cbv;refine(Is u).mono (λv z hR=>?_);obtain⟨l,m,p,rfl,x⟩:=hR;cbv;refine bQt (w.mono (l.t _)) (λs o q j y=>?_);have:=t s m p o q (l.trans j) (x.sl.mono (j.t _)) y;cbv;exact this
theorem cZB{o:Int}{r:Row}(q:Sl 45 bA h (.slice b n c) r)
 (i:∀h' g f,Le h h'->Sl 45 bA h' (.slice g n f) r->k (.agg #[.string nm,.int .i64 o,.slice g n f]) h'):
 Ct 225 [.agg #[.string nm,.int .i64 o,.slice b n c]] h k:=by
 refine cg eXM Tryz.func225 λA m=>?_;cbv;refine aQn q (λe a d l j=>?_);have:=i e a d l j;cbv;exact this
theorem bQs{xs:List ca}(q:Sl 61 bN h (.slice b n c) xs)(Y:∀h' m c',Le h h'->Sl 61 bN h' (.slice m n c') xs->k (.slice m n c') h'):
 Ct 105 [.slice b n c,.func (.func 106) #[] #[]] h k:=by
 have l:=q.len;obtain⟨kW,gZ⟩:=q.bound;have uY:∀h,bN.R h [.string ⟨#[]⟩,.slice none 0 0,.int .i64 0,.bool false,.slice none 0 0] IN:=λh=>⟨_,_,_,_,_,_,rfl,Sl.nil,Sl.nil⟩;refine cg eJE Tryz.func105 λA W=>?_;cbv;refine jy (s:=bN) (x:=IN) uY (by omega) (by decide) (λf R O l1 o1=>?_);obtain⟨J,D⟩:∃J:Nat->Int->ad->Prop,∀w z h',J w z h'=(∃i,aZ z i/\w=n-i/\i<=n/\Le h h'/\cZ 61 bN h' f n (xs.take i++List.replicate (n-i) IN)):=⟨_,λ_ _ _=>rfl⟩;have L:J n 0 R:=by rw[D];exact⟨0,⟨rfl⟩,rfl,by omega,l1,o1⟩
 cbv;refine aX.go (G:=Int) (λz=>[(13,.v (.int .i64 z))]) (λ_=>[]) (λw z h'=>J w z h') n 0 (by constructor<;>cbv) L ?_
 intro w z S I;rw[D]at I;cbv;obtain⟨i,d,hw,hi,j,o2⟩:=I;have fl:A .aN .lss z (A .nat n)=decide (i<n):=by rw[aR A,d.eq,W.nat];exact decide_eq_decide.2 (by show(i:Int)<(n:Int)↔_;omega)
 rw[fl];by_cases e:i<n
 .obtain⟨x,hx⟩:=cB xs i;have ix:=d.ix e;have U:n-(i+1)<w:=by omega
  have ll:=d.succ (A:=A);have rF:=pt (x0:=IN) hx e l;have Z:i<(xs.take i++List.replicate (n-i) (IN:ca)).length:=by rw[cy,yl,eA];omega
  have X:∀h',Le h h'->cZ 61 bN h' f n (xs.take (i+1)++List.replicate (n-(i+1)) IN)->J (n-(i+1)) (A .aT .add .i64 z 1) h':=λh' l' o'=>by
   rw[D];exact⟨i+1,ll,rfl,by omega,l',o'⟩
  rw[ak e];clear fl D L;generalize xs.take i++List.replicate (n-i) IN=ys at *;generalize xs.take (i+1)++List.replicate (n-(i+1)) IN=zs at *;cbv;refine⟨⟨q.bp,ix⟩,?_⟩;cbv;refine(q.mono (j.t _)).load hx d.eq (λcs B=>?_);obtain⟨b1,r,c1,b2,t,c2,rfl,y,Q⟩:=B;have hR:∀h' E H g v,Sl 202 bH h' (.slice E r H) x.S.bB->Sl 46 bF h' (.slice g t v) x.rows->bN.R h' [.string x.S.name,.slice E r H,.int .i64 x.S.key,.bool x.S.only,.slice g t v] x:=λh' E H g v a b=>⟨_,_,_,_,_,_,rfl,a,b⟩;generalize x.S.name=xn at *;generalize x.S.key=xk at *;generalize x.S.only=xo at *;cbv;refine cZA y Q (λV C M K N p q3 q4=>?_);have T:=hR V C M K N q3 q4;cbv;refine⟨⟨rfl,ix⟩,?_⟩;cbv;refine(o2.mono (p.t _)).setAt (by decide) (i:=i) Z d.eq rfl T (λo k4 t4 u=>?_);rw[rF]at u;have l4:Le h o:=(j.trans p).aV (bs:=[f]) (by simpa using O) k4;have:=X o l4 u;clear X;cbv;refine⟨n-(i+1),A .aT .add .i64 z 1,U,by constructor<;>cbv,this⟩
 have P:i=n:=by omega
 have F:xs.take i++List.replicate (n-i) IN=xs:=by rw[P,GD,ie (by omega)];simp
 rw[F]at o2;have:=Y S (zsA f) n j (o2.sl l);rw[bn e];cbv;exact this
theorem RL{xs:List cV}(q:Sl 161 bz h (.slice b n c) xs)(P:∀h' m c',Le h h'->Sl 161 bz h' (.slice m n c') xs->k (.slice m n c') h'):
 Ct 224 [.slice b n c,.func (.func 225) #[] #[]] h k:=by
 have l:=q.len;obtain⟨kW,gZ⟩:=q.bound;have uY:∀h,bz.R h [.string ⟨#[]⟩,.int .i64 0,.slice none 0 0] uU:=λh=>⟨_,_,_,rfl,Sl.nil⟩;refine cg eXN Tryz.func224 λA O=>?_;cbv;refine jy (s:=bz) (x:=uU) uY (by omega) (by decide) (λf K C V o1=>?_);obtain⟨J,D⟩:∃J:Nat->Int->ad->Prop,∀w z h',J w z h'=(∃i,aZ z i/\w=n-i/\i<=n/\Le h h'/\cZ 161 bz h' f n (xs.take i++List.replicate (n-i) uU)):=⟨_,λ_ _ _=>rfl⟩;have L:J n 0 K:=by rw[D];exact⟨0,⟨rfl⟩,rfl,by omega,V,o1⟩
 cbv;refine aX.go (G:=Int) (λz=>[(13,.v (.int .i64 z))]) (λ_=>[]) (λw z h'=>J w z h') n 0 (by constructor<;>cbv) L ?_
 intro w z M I;rw[D]at I;cbv;obtain⟨i,d,hw,hi,j,o2⟩:=I;have fl:A .aN .lss z (A .nat n)=decide (i<n):=by rw[aR A,d.eq,O.nat];exact decide_eq_decide.2 (by show(i:Int)<(n:Int)↔_;omega)
 rw[fl];by_cases e:i<n
 .obtain⟨x,hx⟩:=cB xs i;have ix:=d.ix e;have U:n-(i+1)<w:=by omega
  have Y:=d.succ (A:=A);have rF:=pt (x0:=uU) hx e l;have Q:i<(xs.take i++List.replicate (n-i) (uU:cV)).length:=by rw[cy,yl,eA];omega
  have X:∀h',Le h h'->cZ 161 bz h' f n (xs.take (i+1)++List.replicate (n-(i+1)) uU)->J (n-(i+1)) (A .aT .add .i64 z 1) h':=λh' S o'=>by
   rw[D];exact⟨i+1,Y,rfl,by omega,S,o'⟩
  rw[ak e];clear fl D L;generalize xs.take i++List.replicate (n-i) uU=ys at *;generalize xs.take (i+1)++List.replicate (n-(i+1)) uU=zs at *;cbv;refine⟨⟨q.bp,ix⟩,?_⟩;cbv;refine(q.mono (j.t _)).load hx d.eq (λcs v=>?_);obtain⟨b1,r,c1,rfl,u⟩:=v;have hR:∀h' g H,Sl 45 bA h' (.slice g r H) x.row->bz.R h' [.string x.table,.int .i64 x.op,.slice g r H] x:=λh' g H a=>⟨_,_,_,rfl,a⟩;generalize x.table=xn at *;generalize x.op=xk at *;cbv;refine cZB u (λN y B p Z=>?_);have T:=hR N y B Z;cbv;refine⟨⟨rfl,ix⟩,?_⟩;cbv;refine(o2.mono (p.t _)).setAt (by decide) (i:=i) Q d.eq rfl T (λo R t4 t=>?_);rw[rF]at t;have W:Le h o:=(j.trans p).aV (bs:=[f]) (by simpa using C) R;have:=X o W t;clear X;cbv;refine⟨n-(i+1),A .aT .add .i64 z 1,U,by constructor<;>cbv,this⟩
 have E:i=n:=by omega
 have F:xs.take i++List.replicate (n-i) uU=xs:=by rw[E,GD,ie (by omega)];simp
 rw[F]at o2;have:=P M (zsA f) n j (o2.sl l);rw[bn e];cbv;exact this
def IG:eY×Bool:=(⟨0,[],[]⟩,false)
theorem cZy{s:Int}{c:Option Addr}{d e:Nat}{m:List cV}{o:List mD}(x:Sl 161 bz h (.slice b n d) m)(y:Sl 183 df h (.slice c a e) o)
 (w:∀h' g f Q i,Le h h'->Sl 161 bz h' (.slice g n f) m->Sl 183 df h' (.slice Q a i) o->k (.agg #[.int .i64 s,.slice g n f,.slice Q a i]) h'):
 Ct 108 [.agg #[.int .i64 s,.slice b n d,.slice c a e]] h k:=by
 refine cg eJB Tryz.func108 λA D=>?_;cbv;refine RL x (λC p r l z=>?_);cbv;refine(Uf (y.mono (l.t _))).mono (λv u hR=>?_);obtain⟨j,q,t,rfl,B⟩:=hR;have:=w u p r q t (l.trans j) (z.mono (j.t _)) B.sl;cbv;exact this
theorem bQn{xs:List (eY×Bool)}(q:Sl 79 bV h (.slice b n c) xs)(t:∀h' o c',Le h h'->Sl 79 bV h' (.slice o n c') (xs.map λw=>(w.1,false))->k (.slice o n c') h'):
 Ct 107 [.slice b n c,.func (.func 108) #[] #[]] h k:=by
 have l:=q.len;obtain⟨V,N⟩:∃V,V=xs.map λw=>(w.1,false):=⟨_,rfl⟩;have X:n=V.length:=by rw[N,vi];exact l
 rw[<-N]at t;obtain⟨kW,gZ⟩:=q.bound;have uY:∀h,bV.R h [.int .i64 0,.slice none 0 0,.slice none 0 0] IG:=λh=>⟨_,_,_,_,_,_,rfl,Sl.nil,Sl.nil,λe=>by cases e⟩;refine cg eJC Tryz.func107 λA hA=>?_;cbv;refine jy (s:=bV) (x:=IG) uY (by omega) (by decide) (λg Z W l1 o1=>?_);obtain⟨J,D⟩:∃J:Nat->Int->ad->Prop,∀w z h',J w z h'=(∃i,aZ z i/\w=n-i/\i<=n/\Le h h'/\cZ 79 bV h' g n (V.take i++List.replicate (n-i) IG)):=⟨_,λ_ _ _=>rfl⟩;have L:J n 0 Z:=by rw[D];exact⟨0,⟨rfl⟩,rfl,by omega,l1,o1⟩
 cbv;refine aX.go (G:=Int) (λz=>[(13,.v (.int .i64 z))]) (λ_=>[]) (λw z h'=>J w z h') n 0 (by constructor<;>cbv) L ?_
 intro w z h2 I;rw[D]at I;cbv;obtain⟨i,d,hw,hi,m,o2⟩:=I;have fl:A .aN .lss z (A .nat n)=decide (i<n):=by rw[aR A,d.eq,hA.nat];exact decide_eq_decide.2 (by show(i:Int)<(n:Int)↔_;omega)
 rw[fl];by_cases f:i<n
 .obtain⟨x,hx⟩:=cB xs i;have ix:=d.ix f;have U:n-(i+1)<w:=by omega
  have ll:=d.succ (A:=A);have rF:=pt (x0:=IG) (xs:=V) (x:=(x.1,false)) (by rw[N,kS,hx];rfl) f X;have iv:i<(V.take i++List.replicate (n-i) (IG:(eY×Bool))).length:=by rw[cy,yl,eA];omega
  have p:∀h',Le h h'->cZ 79 bV h' g n (V.take (i+1)++List.replicate (n-(i+1)) IG)->J (n-(i+1)) (A .aT .add .i64 z 1) h':=λh' l' o'=>by
   rw[D];exact⟨i+1,ll,rfl,by omega,l',o'⟩
  rw[ak f];clear fl D L;generalize V.take i++List.replicate (n-i) IG=ys at *;generalize V.take (i+1)++List.replicate (n-(i+1)) IG=zs at *;cbv;refine⟨⟨q.bp,ix⟩,?_⟩;cbv;refine(q.mono (m.t _)).load hx d.eq (λcs M=>?_);obtain⟨b1,y,c1,b2,B,c2,rfl,K,Q,-⟩:=M;have hR:∀h' E H j v,Sl 161 bz h' (.slice E y H) x.1.log->Sl 183 df h' (.slice j B v) x.1.marks->bV.R h' [.int .i64 x.1.s,.slice E y H,.slice j B v] (x.1,false):=λh' E H j v a b=>⟨_,_,_,_,_,_,rfl,a,b,λe=>by cases e⟩;generalize x.1.s=xn at *;cbv;refine cZy K Q (λh3 O R P S u q3 q4=>?_);have T:=hR h3 O R P S q3 q4;cbv;refine⟨⟨rfl,ix⟩,?_⟩;cbv;refine(o2.mono (u.t _)).setAt (by decide) (i:=i) iv d.eq rfl T (λr k4 t4 C=>?_);rw[rF]at C;have l4:Le h r:=(m.trans u).aV (bs:=[g]) (by simpa using W) k4;have:=p r l4 C;clear p;cbv;refine⟨n-(i+1),A .aT .add .i64 z 1,U,by constructor<;>cbv,this⟩
 have Y:i=n:=by omega
 have F:V.take i++List.replicate (n-i) IG=V:=by rw[Y,GD,ie (by omega)];simp
 rw[F]at o2;have:=t h2 (zsA g) n m (o2.sl X);rw[bn f];cbv;exact this
abbrev gKP(h:ad)(d:DB)(k:Value->ad->Prop):Prop:=
 ∀h' b1 n1 c1 b2 n2 c2 b3 n3 c3 b4 n4 c4,Le h h'->fE h' (.agg #[.slice b1 n1 c1,.slice b2 n2 c2,.slice b3 n3 c3,.slice b4 n4 c4]) d->k (.agg #[.slice b1 n1 c1,.slice b2 n2 c2,.slice b3 n3 c3,.slice b4 n4 c4]) h'
theorem bZo{e f g j:Option Addr}{l m b o:Nat}(q:fE h (.agg #[.slice e n l,.slice f a m,.slice g b o,.slice j c p]) d)(F:gKP h d k):
 Ct 42 [.agg #[.slice e n l,.slice f a m,.slice g b o,.slice j c p]] h k:=by
 obtain⟨_,_,_,_,_,_,_,_,_,_,_,_,U,E,J,K,L,M,G⟩:=q.out;cases E;refine cg hKj Tryz.func42 λA T=>?_;cbv;refine(kY L).mono (λv P hR=>?_);obtain⟨r,I,H,rfl,X⟩:=hR;cbv;refine(kY (M.mono (r.t _))).mono (λv R hR=>?_);obtain⟨s,B,V,rfl,i⟩:=hR;have y:=r.trans s;cbv;refine bQs (J.mono (y.t _)) (λS w z t N=>?_);cbv;refine bQn (K.mono ((y.trans t).t _)) (λD x C u O=>?_);have Q:=t.trans u;have:=F D w n z x a C I b H B c V (y.trans Q) ⟨_,_,_,_,_,_,_,_,_,_,_,_,_,rfl,N.mono (u.t _),O,X.sl.mono ((s.trans Q).t _),i.sl.mono (Q.t _),by rw[<-G,jKq];rfl⟩;cbv;exact this
theorem eJF(q:Da h s p G d L)(v:gKP h d k):Ct 13 [.zP s] h k:=by obtain⟨g,x,y,D,C,z⟩:=q.out;obtain⟨b,o,f,a,r,i,c,t,j,e,u,m,n,w⟩:=z.out;refine cg hKD Tryz.func13 λA B=>?_;cbv;rw[av A];refine yJ (cm y.out rfl) n rfl ?_;cbv;rw[av A];refine cr n ?_;cbv;refine bZo w (λh' b o f a r i c t j e u m l q=>?_);have:=v h' b o f a r i c t j e u m l q;cbv;exact this
end Go.S
