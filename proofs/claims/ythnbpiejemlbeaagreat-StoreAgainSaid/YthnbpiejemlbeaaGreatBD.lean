import Derived.Test.YthnbpiejemlbeaaGreatBC
set_option linter.all false
set_option maxRecDepth 100000
set_option maxHeartbeats 8000000
namespace Go.S
open Go.Sx Go.Proofs
variable {only:Bool}{nm:ByteArray}{d:DB}{key:Int}{G:Lg}{cols:List jR}{a c n p s:Nat}{b:Option Addr}{k:Value->ad->Prop}{L:Value×Value×Value×Value}{h:ad}
def Hv(G:Lg)(d:DB)(D:DB×Int)(l:Bs):Int×Lg×DB:=
 if D.2≠0 then(D.2,G,d)else((aY G l).1,(aY G l).2,if(aY G l).1=0 then D.1 else d)
def fQ(G:Lg)(d:DB)(x:rM):Int×Lg×DB:=Hv G d (bP d x) (eQ x)
def mj(G:Lg)(d:DB)(nm:ByteArray):Int×Lg×DB:=Hv G d (dY d nm) (eX nm)
theorem DO.lx{h':ad}(q:DO h s p G d L)(l:Le h h'):DO h' s p G d L:=by obtain⟨g,x,b,a,k,c⟩:=q.out;exact⟨g,x,⟨l _ _ b.out⟩,a.lt (l.t _),k.le l,c.le l⟩
theorem bXR(q:DO h s p G d L){y:Option Addr}{o z:Nat}(w:Sl 202 bJ h (.slice y o z) cols)
 (Z:o<=2^16) (J:nm.size<=2^40) (N:∀x∈cols,x.name.size<=2^40) (sm:Small d) (T:G.s<=2^29) (S:G.n<=2^29) (V:G.D.ws.length<=2^28) 
 (b:∀h',ep JE h h'->DO h' s p (fQ G d ⟨nm,cols,key,only⟩).2.1 (fQ G d ⟨nm,cols,key,only⟩).2.2 L->k (.zI (fQ G d ⟨nm,cols,key,only⟩).1) h'):
 Ct 36 [.zP s,.agg #[.string nm,.slice y o z,.zI key,.bool only]] h k:=by
 obtain⟨g,x,Q,ql,qk,qx⟩:=q.out;obtain⟨b1,n1,c1,b2,n2,c2,b3,n3,c3,b4,n4,c4,n,qd⟩:=qx.out;have a:fQ G d ⟨nm,cols,key,only⟩=Hv G d (bP d ⟨nm,cols,key,only⟩) (eQ ⟨nm,cols,key,only⟩):=rfl;have uf:(eQ ⟨nm,cols,key,only⟩).length<=65538:=by unfold eQ;have:=tg (strOf (vu ⟨nm,cols,key,only⟩));rw[kXy,kXm];omega
 refine cB iQV Tryz.func36 λA hA=>?_;cbv;rw[av A];refine zx (cJ Q.out rfl) n rfl ?_;cbv;rw[av A];refine cy n ?_;cbv;refine Dh qd w sm (D:=bP d ⟨nm,cols,key,only⟩) rfl (λt M wQ W I me U Y rH X B F vH l E=>?_);have u:=q.lx l;have r:=l _ _ n;have K:=w.mono (l.t _);generalize bP d ⟨nm,cols,key,only⟩=C at *;obtain⟨m,c⟩:=C;have E:fD t (.agg #[.slice M wQ W,.slice I me U,.slice Y rH X,.slice B F vH]) m:=E;have f:A .aQ .neq c 0=decide (c≠0):=aJ A ..;by_cases i:c≠0
 .have a:fQ G d ⟨nm,cols,key,only⟩=(c,G,d):=by rw[a];exact if_pos i
  rw[a]at b;have:=b t (l.x _) u;rw[kS i]at f;clear b a;cbv;rw[f];cbv;exact this
 have a:fQ G d ⟨nm,cols,key,only⟩=((aY G (eQ ⟨nm,cols,key,only⟩)).1,(aY G (eQ ⟨nm,cols,key,only⟩)).2,if(aY G (eQ ⟨nm,cols,key,only⟩)).1=0 then m else d):=by rw[a];exact if_neg i
 rw[a]at b;rw[kQW i]at f;clear a;cbv;rw[f];cbv;rw[av A];refine cy r ?_;cbv;refine cJV K Z J N (λO rb rn rc j v=>?_);have uj:=j _ _ r;have Bj:=v.sl.len;generalize eQ ⟨nm,cols,key,only⟩=rec at *;have H:∀h',ep JE O h'->DO h' s p (aY G rec).2 (if(aY G rec).1=0 then m else d) L->k (.zI (aY G rec).1) h':=λh' x' w'=>b h' (((l.trans j).x _).trans x') w';cbv;refine cy uj ?_;cbv;refine zqr ?_;cbv;refine eQB (u.lx j) v.sl T S ip V (E.mono j) (λP x5 w5=>?_);have:=H P x5 w5;generalize aY G rec=R at *;obtain⟨e,G2⟩:=R;cbv;exact this
theorem fQu(q:DO h s p G d L)(nm:ByteArray)(w:nm.size<=2^40)(I:G.s<=2^29)(H:G.n<=2^29)(J:G.D.ws.length<=2^28)
 (b:∀h',ep JE h h'->DO h' s p (mj G d nm).2.1 (mj G d nm).2.2 L->k (.zI (mj G d nm).1) h'):
 Ct 67 [.zP s,.string nm] h k:=by
 obtain⟨g,x,Q,ql,qk,T⟩:=q.out;obtain⟨b1,n1,c1,b2,n2,c2,b3,n3,c3,b4,n4,c4,n,S⟩:=T.out;have a:mj G d nm=Hv G d (dY d nm) (eX nm):=rfl;have uf:(eX nm).length<=65538:=by
  grind [eX,tg]
 refine cB iQx Tryz.func67 λA hA=>?_;cbv;rw[av A];refine zx (cJ Q.out rfl) n rfl ?_;cbv;rw[av A];refine cy n ?_;cbv;refine SX S nm (D:=dY d nm) rfl (λr M wQ W K P U O V N v F Y l E=>?_);have t:=q.lx l;have o:=l _ _ n;generalize dY d nm=C at *;obtain⟨m,c⟩:=C;have E:fD r (.agg #[.slice M wQ W,.slice K P U,.slice O V N,.slice v F Y]) m:=E;have f:A .aQ .neq c 0=decide (c≠0):=aJ A ..;by_cases i:c≠0
 .have a:mj G d nm=(c,G,d):=by rw[a];exact if_pos i
  rw[a]at b;have:=b r (l.x _) t;rw[kS i]at f;clear b a;cbv;rw[f];cbv;exact this
 have a:mj G d nm=((aY G (eX nm)).1,(aY G (eX nm)).2,if(aY G (eX nm)).1=0 then m else d):=by rw[a];exact if_neg i
 rw[a]at b;rw[kQW i]at f;clear a;cbv;rw[f];cbv;rw[av A];refine cy o ?_;cbv;refine bXP nm w (λy rb rn rc j u=>?_);have X:=j _ _ o;have Bj:=u.sl.len;generalize eX nm=rec at *;have z:∀h',ep JE y h'->DO h' s p (aY G rec).2 (if(aY G rec).1=0 then m else d) L->k (.zI (aY G rec).1) h':=λh' x' w'=>b h' (((l.trans j).x _).trans x') w';cbv;refine cy X ?_;cbv;refine zqr ?_;cbv;refine eQB (t.lx j) u.sl I H ip J (E.mono j) (λB x5 Z=>?_);have:=z B x5 Z;generalize aY G rec=R at *;obtain⟨e,G2⟩:=R;cbv;exact this
theorem pO{a:Type}{xs:List a}{x x0:a}{i:Nat}(hx:xs[i]? =some x)(c:i<n)(d:n=xs.length):(xs.take i++List.replicate (n-i) x0).set i x=xs.take (i+1)++List.replicate (n-(i+1)) x0:=by
 have h:n-i=(n-(i+1))+1:=ip
 have b:(xs.take i).length=i:=gg
 rw[h,kKj,kXr _ _ ip,b,kKd,List.set_cons_zero,kJG,hx];simp
theorem aXM{xs:Row}(q:Sl 45 bG h (.slice b n c) xs)(d:∀h' a c',Le h h'->Sl 45 bG h' (.slice a n c') xs->k (.slice a n c') h'):
 Ct 223 [.slice b n c] h k:=by
 refine cB eJk Tryz.func223 λA j=>?_;cbv;refine(Dm q).mono (λv i hR=>?_);obtain⟨l,f,g,rfl,e⟩:=hR;cbv;exact d _ _ _ l e.sl
theorem bXO{xs:List Row}(q:Sl 46 bK h (.slice b n c) xs)(E:∀h' f c',Le h h'->Sl 46 bK h' (.slice f n c') xs->k (.slice f n c') h'):
 Ct 222 [.slice b n c,.func (.func 223) #[] #[]] h k:=by
 have l:=q.len;obtain⟨lG,V⟩:=q.bound;have S:∀h,bK.R h [.zN] []:=λh=>⟨_,rfl,Sl.nil⟩;refine cB eJl Tryz.func222 λA D=>?_;cbv;refine jM (s:=bK) (x:=[]) S ip dl (λe y M L o1=>?_);obtain⟨J,H⟩:∃J:Nat->Int->ad->Prop,∀w z h',J w z h'=(∃i,bg z i/\w=n-i/\i<=n/\Le h h'/\dt 46 bK h' e n (xs.take i++List.replicate (n-i) [])):=⟨_,λ_ _ _=>rfl⟩;have P:J n 0 y:=by rw[H];exact⟨0,⟨rfl⟩,rfl,ip,L,o1⟩
 cbv;refine ba.gz (G:=Int) (λz=>[(13,.v (.zI z))]) (λ_=>[]) (λw z h'=>J w z h') n 0 P ?_
 intro w z C I;rw[H]at I;cbv;obtain⟨i,a,Y,X,g,o2⟩:=I;have fl:A .aQ .lss z (A .nat n)=decide (i<n):=by rw[aV A,a.eq,D.nat];grind
 rw[fl];by_cases d:i<n
 .obtain⟨x,hx⟩:=cK xs i;have ix:=a.ix d;have Z:n-(i+1)<w:=ip
  have ly:=a.succ (A:=A);have Q:=pO (x0:=[]) hx d l;have F:i<(xs.take i++List.replicate (n-i) ([]:Row)).length:=gg
  have m:∀h',Le h h'->dt 46 bK h' e n (xs.take (i+1)++List.replicate (n-(i+1)) [])->J (n-(i+1)) (A .aX .add .i64 z 1) h':=λh' l' o'=>by
   grind
  rw[kS d];clear fl H P;generalize xs.take i++List.replicate (n-i) []=ys at *;generalize xs.take (i+1)++List.replicate (n-(i+1)) []=zs at *;cbv;refine⟨⟨q.bu,ix⟩,?_⟩;cbv;refine(q.mono (g.t _)).load hx a.eq (λcs u=>?_);obtain⟨v,rfl,r⟩:=u;obtain⟨vb,t,vc,rfl⟩:∃vb t vc,v=.slice vb t vc:=by
   obtain⟨f,cap,e1,-⟩:=r.out
   grind
  cbv;refine aXM r (λW T U o R=>?_);cbv;refine⟨⟨rfl,ix⟩,?_⟩;cbv;refine(o2.mono (o.t _)).setAt dl (i:=i) F a.eq rfl ⟨_,rfl,R⟩ (λj K t4 p=>?_);rw[Q]at p;have O:Le h j:=(g.trans o).bf (bs:=[e]) (iu M) K;have:=m j O p;clear m;cbv;refine zqn (n-(i+1)) (A .aX .add .i64 z 1) Z this
 have N:i=n:=ip
 have B:xs.take i++List.replicate (n-i) []=xs:=by rw[N,kKd,kXe ip];simp
 rw[B]at o2;have:=E C (zsA e) n g (o2.sl l);rw[kQW d];cbv;exact this
def JH:bS:=⟨⟨⟨#[]⟩,[],0,false⟩,[]⟩
def vG:cR:=⟨⟨#[]⟩,0,[]⟩
theorem cKf{c:Option Addr}{d e:Nat}{r:List Row}(t:Sl 202 bJ h (.slice b n d) cols)(u:Sl 46 bK h (.slice c a e) r)
 (s:∀h' g W f U,Le h h'->Sl 202 bJ h' (.slice g n W) cols->Sl 46 bK h' (.slice f a U) r->k (.agg #[.string nm,.slice g n W,.zI key,.bool only,.slice f a U]) h'):
 Ct 106 [.agg #[.string nm,.slice b n d,.zI key,.bool only,.slice c a e]] h k:=by
 refine cB eKZ Tryz.func106 λA z=>?_;cbv;refine(Jm t).mono (λv y hR=>?_);obtain⟨l,j,o,rfl,w⟩:=hR;cbv;refine bXO (u.mono (l.t _)) (λq m p i x=>?_);have:=s q j o m p (l.trans i) (w.sl.mono (i.t _)) x;cbv;exact this
theorem cKg{o:Int}{r:Row}(q:Sl 45 bG h (.slice b n c) r)
 (i:∀h' g f,Le h h'->Sl 45 bG h' (.slice g n f) r->k (.agg #[.string nm,.zI o,.slice g n f]) h'):
 Ct 225 [.agg #[.string nm,.zI o,.slice b n c]] h k:=by
 refine cB eJi Tryz.func225 λA m=>?_;cbv;refine aXM q (λe a d l j=>?_);have:=i e a d l j;cbv;exact this
theorem bXN{xs:List bS}(q:Sl 61 bT h (.slice b n c) xs)(T:∀h' m c',Le h h'->Sl 61 bT h' (.slice m n c') xs->k (.slice m n c') h'):
 Ct 105 [.slice b n c,.func (.func 106) #[] #[]] h k:=by
 have l:=q.len;obtain⟨lG,gQ⟩:=q.bound;have vN:∀h,bT.R h [.string ⟨#[]⟩,.zN,.zI 0,.bool false,.zN] JH:=λh=>⟨_,_,_,_,_,_,rfl,Sl.nil,Sl.nil⟩;refine cB fQa Tryz.func105 λA S=>?_;cbv;refine jM (s:=bT) (x:=JH) vN ip dl (λf O M l1 o1=>?_);obtain⟨J,H⟩:∃J:Nat->Int->ad->Prop,∀w z h',J w z h'=(∃i,bg z i/\w=n-i/\i<=n/\Le h h'/\dt 61 bT h' f n (xs.take i++List.replicate (n-i) JH)):=⟨_,λ_ _ _=>rfl⟩;have P:J n 0 O:=by rw[H];exact⟨0,⟨rfl⟩,rfl,ip,l1,o1⟩
 cbv;refine ba.gz (G:=Int) (λz=>[(13,.v (.zI z))]) (λ_=>[]) (λw z h'=>J w z h') n 0 P ?_
 intro w z Q I;rw[H]at I;cbv;obtain⟨i,d,hw,hi,j,o2⟩:=I;have fl:A .aQ .lss z (A .nat n)=decide (i<n):=by rw[aV A,d.eq,S.nat];grind
 rw[fl];by_cases e:i<n
 .obtain⟨x,hx⟩:=cK xs i;have ix:=d.ix e;have Z:n-(i+1)<w:=ip
  have ly:=d.succ (A:=A);have pQ:=pO (x0:=JH) hx e l;have Y:i<(xs.take i++List.replicate (n-i) (JH:bS)).length:=gg
  have o:∀h',Le h h'->dt 61 bT h' f n (xs.take (i+1)++List.replicate (n-(i+1)) JH)->J (n-(i+1)) (A .aX .add .i64 z 1) h':=λh' l' o'=>by
   grind
  rw[kS e];clear fl H P;generalize xs.take i++List.replicate (n-i) JH=ys at *;generalize xs.take (i+1)++List.replicate (n-(i+1)) JH=zs at *;cbv;refine⟨⟨q.bu,ix⟩,?_⟩;cbv;refine(q.mono (j.t _)).load hx d.eq (λcs y=>?_);obtain⟨b1,t,c1,b2,u,c2,rfl,E,X⟩:=y;have hR:∀h' g W K U,Sl 202 bJ h' (.slice g t W) x.S.cols->Sl 46 bK h' (.slice K u U) x.rows->bT.R h' [.string x.S.name,.slice g t W,.zI x.S.key,.bool x.S.only,.slice K u U] x:=λh' g W K U a b=>⟨_,_,_,_,_,_,rfl,a,b⟩;generalize x.S.name=xn at *;generalize x.S.key=xk at *;generalize x.S.only=xo at *;cbv;refine cKf E X (λR C F D L r q3 q4=>?_);have V:=hR R C F D L q3 q4;cbv;refine⟨⟨rfl,ix⟩,?_⟩;cbv;refine(o2.mono (r.t _)).setAt dl (i:=i) Y d.eq rfl V (λp k4 t4 v=>?_);rw[pQ]at v;have l4:Le h p:=(j.trans r).bf (bs:=[f]) (iu M) k4;have:=o p l4 v;clear o;cbv;refine zqn (n-(i+1)) (A .aX .add .i64 z 1) Z this
 have N:i=n:=ip
 have B:xs.take i++List.replicate (n-i) JH=xs:=by rw[N,kKd,kXe ip];simp
 rw[B]at o2;have:=T Q (zsA f) n j (o2.sl l);rw[kQW e];cbv;exact this
theorem TA{xs:List cR}(q:Sl 161 bD h (.slice b n c) xs)(O:∀h' m c',Le h h'->Sl 161 bD h' (.slice m n c') xs->k (.slice m n c') h'):
 Ct 224 [.slice b n c,.func (.func 225) #[] #[]] h k:=by
 have l:=q.len;obtain⟨lG,gQ⟩:=q.bound;have Y:∀h,bD.R h [.string ⟨#[]⟩,.zI 0,.zN] vG:=λh=>⟨_,_,_,rfl,Sl.nil⟩;refine cB eJj Tryz.func224 λA L=>?_;cbv;refine jM (s:=bD) (x:=vG) Y ip dl (λf D M S o1=>?_);obtain⟨J,H⟩:∃J:Nat->Int->ad->Prop,∀w z h',J w z h'=(∃i,bg z i/\w=n-i/\i<=n/\Le h h'/\dt 161 bD h' f n (xs.take i++List.replicate (n-i) vG)):=⟨_,λ_ _ _=>rfl⟩;have P:J n 0 D:=by rw[H];exact⟨0,⟨rfl⟩,rfl,ip,S,o1⟩
 cbv;refine ba.gz (G:=Int) (λz=>[(13,.v (.zI z))]) (λ_=>[]) (λw z h'=>J w z h') n 0 P ?_
 intro w z F I;rw[H]at I;cbv;obtain⟨i,d,hw,hi,j,o2⟩:=I;have fl:A .aQ .lss z (A .nat n)=decide (i<n):=by rw[aV A,d.eq,L.nat];grind
 rw[fl];by_cases e:i<n
 .obtain⟨x,hx⟩:=cK xs i;have ix:=d.ix e;have Z:n-(i+1)<w:=ip
  have ly:=d.succ (A:=A);have U:=pO (x0:=vG) hx e l;have Q:i<(xs.take i++List.replicate (n-i) (vG:cR)).length:=gg
  have o:∀h',Le h h'->dt 161 bD h' f n (xs.take (i+1)++List.replicate (n-(i+1)) vG)->J (n-(i+1)) (A .aX .add .i64 z 1) h':=λh' l' o'=>by
   grind
  rw[kS e];clear fl H P;generalize xs.take i++List.replicate (n-i) vG=ys at *;generalize xs.take (i+1)++List.replicate (n-(i+1)) vG=zs at *;cbv;refine⟨⟨q.bu,ix⟩,?_⟩;cbv;refine(q.mono (j.t _)).load hx d.eq (λcs v=>?_);obtain⟨b1,t,c1,rfl,E⟩:=v;have hR:∀h' g W,Sl 45 bG h' (.slice g t W) x.row->bD.R h' [.string x.table,.zI x.op,.slice g t W] x:=λh' g W a=>⟨_,_,_,rfl,a⟩;generalize x.table=xn at *;generalize x.op=xk at *;cbv;refine cKg E (λK y C r X=>?_);have V:=hR K y C X;cbv;refine⟨⟨rfl,ix⟩,?_⟩;cbv;refine(o2.mono (r.t _)).setAt dl (i:=i) Q d.eq rfl V (λp R t4 u=>?_);rw[U]at u;have T:Le h p:=(j.trans r).bf (bs:=[f]) (iu M) R;have:=o p T u;clear o;cbv;refine zqn (n-(i+1)) (A .aX .add .i64 z 1) Z this
 have N:i=n:=ip
 have B:xs.take i++List.replicate (n-i) vG=xs:=by rw[N,kKd,kXe ip];simp
 rw[B]at o2;have:=O F (zsA f) n j (o2.sl l);rw[kQW e];cbv;exact this
def Jz:eJ×Bool:=(⟨0,[],[]⟩,false)
theorem cKd{s:Int}{c:Option Addr}{d e:Nat}{j:List cR}{m:List mS}(w:Sl 161 bD h (.slice b n d) j)(x:Sl 183 dw h (.slice c a e) m)
 (u:∀h' g W f U,Le h h'->Sl 161 bD h' (.slice g n W) j->Sl 183 dw h' (.slice f a U) m->k (.agg #[.zI s,.slice g n W,.slice f a U]) h'):
 Ct 108 [.agg #[.zI s,.slice b n d,.slice c a e]] h k:=by
 refine cB eKX Tryz.func108 λA C=>?_;cbv;refine TA w (λB o q l y=>?_);cbv;refine(VD (x.mono (l.t _))).mono (λv t hR=>?_);obtain⟨i,p,r,rfl,z⟩:=hR;have:=u t o q p r (l.trans i) (y.mono (i.t _)) z.sl;cbv;exact this
theorem bXI{xs:List (eJ×Bool)}(q:Sl 79 cu h (.slice b n c) xs)(r:∀h' m c',Le h h'->Sl 79 cu h' (.slice m n c') (xs.map λw=>(w.1,false))->k (.slice m n c') h'):
 Ct 107 [.slice b n c,.func (.func 108) #[] #[]] h k:=by
 have t:=q.len;obtain⟨W,O⟩:∃W,W=xs.map λw=>(w.1,false):=⟨_,rfl⟩;have Z:n=W.length:=gg
 rw[<-O]at r;obtain⟨lG,gQ⟩:=q.bound;have vN:∀h,cu.R h [.zI 0,.zN,.zN] Jz:=λh=>⟨_,_,_,_,_,_,rfl,Sl.nil,Sl.nil,λe=>by cases e⟩;refine cB eKY Tryz.func107 λA hA=>?_;cbv;refine jM (s:=cu) (x:=Jz) vN ip dl (λg Y S l1 o1=>?_);obtain⟨J,H⟩:∃J:Nat->Int->ad->Prop,∀w z h',J w z h'=(∃i,bg z i/\w=n-i/\i<=n/\Le h h'/\dt 79 cu h' g n (W.take i++List.replicate (n-i) Jz)):=⟨_,λ_ _ _=>rfl⟩;have P:J n 0 Y:=by rw[H];exact⟨0,⟨rfl⟩,rfl,ip,l1,o1⟩
 cbv;refine ba.gz (G:=Int) (λz=>[(13,.v (.zI z))]) (λ_=>[]) (λw z h'=>J w z h') n 0 P ?_
 intro w z h2 I;rw[H]at I;cbv;obtain⟨i,d,hw,hi,l,o2⟩:=I;have fl:A .aQ .lss z (A .nat n)=decide (i<n):=by rw[aV A,d.eq,hA.nat];grind
 rw[fl];by_cases f:i<n
 .obtain⟨x,hx⟩:=cK xs i;have ix:=d.ix f;have D:n-(i+1)<w:=ip
  have ly:=d.succ (A:=A);have pQ:=pO (x0:=Jz) (xs:=W) (x:=(x.1,false)) gg f Z;have ic:i<(W.take i++List.replicate (n-i) (Jz:(eJ×Bool))).length:=gg
  have o:∀h',Le h h'->dt 79 cu h' g n (W.take (i+1)++List.replicate (n-(i+1)) Jz)->J (n-(i+1)) (A .aX .add .i64 z 1) h':=λh' l' o'=>by
   grind
  rw[kS f];clear fl H P;generalize W.take i++List.replicate (n-i) Jz=ys at *;generalize W.take (i+1)++List.replicate (n-(i+1)) Jz=zs at *;cbv;refine⟨⟨q.bu,ix⟩,?_⟩;cbv;refine(q.mono (l.t _)).load hx d.eq (λcs F=>?_);obtain⟨b1,v,c1,b2,y,c2,rfl,E,X,-⟩:=F;have hR:∀h' M j K U,Sl 161 bD h' (.slice M v j) x.1.log->Sl 183 dw h' (.slice K y U) x.1.marks->cu.R h' [.zI x.1.s,.slice M v j,.slice K y U] (x.1,false):=λh' M j K U a b=>⟨_,_,_,_,_,_,rfl,a,b,λe=>by cases e⟩;generalize x.1.s=xn at *;cbv;refine cKd E X (λh3 L Q N R u q3 q4=>?_);have V:=hR h3 L Q N R q3 q4;cbv;refine⟨⟨rfl,ix⟩,?_⟩;cbv;refine(o2.mono (u.t _)).setAt dl (i:=i) ic d.eq rfl V (λp k4 t4 B=>?_);rw[pQ]at B;have l4:Le h p:=(l.trans u).bf (bs:=[g]) (iu S) k4;have:=o p l4 B;clear o;cbv;refine zqn (n-(i+1)) (A .aX .add .i64 z 1) D this
 have T:i=n:=ip
 have C:W.take i++List.replicate (n-i) Jz=W:=by rw[T,kKd,kXe ip];simp
 rw[C]at o2;have:=r h2 (zsA g) n l (o2.sl Z);rw[kQW f];cbv;exact this
abbrev hXB(h:ad)(d:DB)(k:Value->ad->Prop):Prop:=
 ∀h' b1 n1 c1 b2 n2 c2 b3 n3 c3 b4 n4 c4,Le h h'->fD h' (.agg #[.slice b1 n1 c1,.slice b2 n2 c2,.slice b3 n3 c3,.slice b4 n4 c4]) d->k (.agg #[.slice b1 n1 c1,.slice b2 n2 c2,.slice b3 n3 c3,.slice b4 n4 c4]) h'
theorem bJL{e f g j:Option Addr}{l m b o:Nat}(q:fD h (.agg #[.slice e n l,.slice f a m,.slice g b o,.slice j c p]) d)(F:hXB h d k):
 Ct 42 [.agg #[.slice e n l,.slice f a m,.slice g b o,.slice j c p]] h k:=by
 obtain⟨_,_,_,_,_,_,_,_,_,_,_,_,ws,E,K,L,M,N,G⟩:=q.out;cases E;refine cB iQR Tryz.func42 λA V=>?_;cbv;refine(lJ M).mono (λv R hR=>?_);obtain⟨r,I,H,rfl,J⟩:=hR;cbv;refine(lJ (N.mono (r.t _))).mono (λv T hR=>?_);obtain⟨s,C,Q,rfl,i⟩:=hR;have z:=r.trans s;cbv;refine bXN (K.mono (z.t _)) (λU w y t O=>?_);cbv;refine bXI (L.mono ((z.trans t).t _)) (λD x B u P=>?_);have S:=t.trans u;have:=F D w n y x a B I b H C c Q (z.trans S) ⟨_,_,_,_,_,_,_,_,_,_,_,_,_,rfl,O.mono (u.t _),P,J.sl.mono ((s.trans S).t _),i.sl.mono (S.t _),by rw[<-G,kXS];rfl⟩;cbv;exact this
theorem fQb(q:DO h s p G d L)(v:hXB h d k):Ct 13 [.zP s] h k:=by obtain⟨g,x,y,D,C,z⟩:=q.out;obtain⟨b,o,f,a,r,i,c,t,j,e,u,m,n,w⟩:=z.out;refine cB iXk Tryz.func13 λA B=>?_;cbv;rw[av A];refine zx (cJ y.out rfl) n rfl ?_;cbv;rw[av A];refine cy n ?_;cbv;refine bJL w (λh' b o f a r i c t j e u m l q=>?_);have:=v h' b o f a r i c t j e u m l q;cbv;exact this
end Go.S
