import Derived.Test.YthnbpiejemlbeaaGreatBE
import Derived.Test.YthnbpiejemlbeaaGreatBG
set_option linter.all false
set_option maxRecDepth 100000
set_option maxHeartbeats 8000000
namespace Go.S
open Go.Sx Go.Proofs
variable {A:Ar}{id:Int}{a bytes c cap e f i m n p:Nat}{o1 o2:Option (Option Addr×Nat)}{b d:Option Addr}{k:Value->ad->Prop}{h h' h0:ad}
structure mQ where
 id:Int
 KL:List cR
structure eO where
 next:Int
 oO:List mQ
 dq:List nV
 Fi:List (List mQ)
def eD:Sh mQ where
 n:=2
 R h cs t:=∃b n c,cs=[.zI t.id,.slice b n c]/\Sl 161 bD h (.slice b n c) t.KL
 len:=gg
 one:=by rintro h cs x ⟨_,_,_,rfl,-⟩;rfl
 tys:=[161,45]
 mono:=by rintro h h' cs x hl ⟨b,n,c,rfl,q⟩;exact⟨b,n,c,rfl,q.mono (hl.sub)⟩
abbrev gN:Sh (List mQ):=wh 172 eD
abbrev kZ:List Nat:=[172,47,224,161,45]
structure vr(h:ad)(b1:Option Addr)(n1 c1:Nat)(b2:Option Addr)(n2 c2:Nat)(b3:Option Addr)(n3 c3:Nat)(L:eO):Prop where
 oO:Sl 172 eD h (.slice b1 n1 c1) L.oO
 dq:Sl 224 ek h (.slice b2 n2 c2) L.dq
 Fi:Sl 47 gN h (.slice b3 n3 c3) L.Fi
theorem vr.ls{a c:Option Addr}{d g:Nat}{L:eO}(q:vr h b n d a g e c i f L)(l:cX kZ h h'):vr h' b n d a g e c i f L:=
 ⟨q.oO.mono (l.sub),q.dq.mono (l.sub),q.Fi.mono (l.sub)⟩
theorem vr.le{a c:Option Addr}{d g:Nat}{L:eO}(q:vr h b n d a g e c i f L)(l:Le h h'):vr h' b n d a g e c i f L:=q.ls (l.t _)
def vt:mQ:=⟨0,[]⟩
theorem Tb{xs:List nV}{len:Nat}(q:Sl 224 ek h (.slice b len cap) xs):
 Ct 118 [.slice b len cap] h (λv h'=>Le h h'/\∃d i,v=.slice d len i/\bA 224 ek h h' (.slice d len i) xs):=by
 refine cB bXq Tryz.func118 λA k=>?_;cbv;refine bm (λa=>?_) (λa=>?_)
 .rw[k.CI]at a;cbv;have m:b=none:=by cases b<;>simp at a |-
  subst m;have hl:len=0:=by
   rcases kZE len with e|e
   .exact e
   have:=q.bu e;cases this
  have:=q.len
  grind [hx,hl,Le.refl,bA.nil]
 cbv;intro r j N w;have l:Le h j:=zqs w N
 cbv;refine dG (q.mono (l.t _)) (by simp[ek]) rfl dl (λn=>?_) (λs c p e1 o f g=>?_)
 .cbv;have:=q.len;have hx:xs=[]:=kZh ip;subst hx n;exact⟨l,_,_,rfl,bA.nil⟩
 cbv;exact⟨l.trans f,_,_,rfl,g.buf (l.none e1) q.len⟩
theorem cKe{K:List cR}(q:Sl 161 bD h (.slice b n c) K)
 (i:∀h' g f,Le h h'->Sl 161 bD h' (.slice g n f) K->k (.agg #[.zI id,.slice g n f]) h'):
 Ct 239 [.agg #[.zI id,.slice b n c]] h k:=by
 refine cB eZV Tryz.func239 λA m=>?_;cbv;refine TA q (λe a d l j=>?_);have:=i e a d l j;cbv;exact this
theorem bXJ{xs:List mQ}(q:Sl 172 eD h (.slice b n c) xs)(O:∀h' m c',Le h h'->Sl 172 eD h' (.slice m n c') xs->k (.slice m n c') h'):
 Ct 238 [.slice b n c,.func (.func 239) #[] #[]] h k:=by
 have l:=q.len;obtain⟨lG,gQ⟩:=q.bound;have Y:∀h,eD.R h [.zI 0,.zN] vt:=λh=>⟨_,_,_,rfl,Sl.nil⟩;refine cB bXe Tryz.func238 λA L=>?_;cbv;refine jM (s:=eD) (x:=vt) Y ip dl (λf D M S o1=>?_);obtain⟨J,H⟩:∃J:Nat->Int->ad->Prop,∀w z h',J w z h'=(∃i,bg z i/\w=n-i/\i<=n/\Le h h'/\dt 172 eD h' f n (xs.take i++List.replicate (n-i) vt)):=⟨_,λ_ _ _=>rfl⟩;have P:J n 0 D:=by rw[H];exact⟨0,⟨rfl⟩,rfl,ip,S,o1⟩
 cbv;refine ba.gz (G:=Int) (λz=>[(13,.v (.zI z))]) (λ_=>[]) (λw z h'=>J w z h') n 0 P ?_
 intro w z F I;rw[H]at I;cbv;obtain⟨i,d,hw,hi,j,o2⟩:=I;have fl:A .aQ .lss z (A .nat n)=decide (i<n):=by rw[aV A,d.eq,L.nat];grind
 rw[fl];by_cases e:i<n
 .obtain⟨x,hx⟩:=cK xs i;have ix:=d.ix e;have Z:n-(i+1)<w:=ip
  have ly:=d.succ (A:=A);have U:=pO (x0:=vt) hx e l;have Q:i<(xs.take i++List.replicate (n-i) (vt:mQ)).length:=gg
  have o:∀h',Le h h'->dt 172 eD h' f n (xs.take (i+1)++List.replicate (n-(i+1)) vt)->J (n-(i+1)) (A .aX .add .i64 z 1) h':=λh' l' o'=>by
   grind
  rw[kS e];clear fl H P;generalize xs.take i++List.replicate (n-i) vt=ys at *;generalize xs.take (i+1)++List.replicate (n-(i+1)) vt=zs at *;cbv;refine⟨⟨q.bu,ix⟩,?_⟩;cbv;refine(q.mono (j.t _)).load hx d.eq (λcs v=>?_);obtain⟨b1,t,c1,rfl,E⟩:=v;have hR:∀h' g W,Sl 161 bD h' (.slice g t W) x.KL->eD.R h' [.zI x.id,.slice g t W] x:=λh' g W a=>⟨_,_,_,rfl,a⟩;generalize x.id=xn at *;cbv;refine cKe E (λK y C r X=>?_);have V:=hR K y C X;cbv;refine⟨⟨rfl,ix⟩,?_⟩;cbv;refine(o2.mono (r.t _)).setAt dl (i:=i) Q d.eq rfl V (λp R t4 u=>?_);rw[U]at u;have T:Le h p:=(j.trans r).bf (bs:=[f]) (iu M) R;have:=o p T u;clear o;cbv;refine zqn (n-(i+1)) (A .aX .add .i64 z 1) Z this
 have N:i=n:=ip
 have B:xs.take i++List.replicate (n-i) vt=xs:=by rw[N,kKd,kXe ip];simp
 rw[B]at o2;have:=O F (zsA f) n j (o2.sl l);rw[kQW e];cbv;exact this
theorem Ts{xs:List mQ}(q:Sl 172 eD h (.slice b n c) xs)(e:∀h' a c',Le h h'->Sl 172 eD h' (.slice a n c') xs->k (.slice a n c') h'):
 Ct 117 [.slice b n c] h k:=by
 refine cB bXr Tryz.func117 λA g=>?_;cbv;refine bXJ q (λd b c l f=>?_);have:=e d b c l f;cbv;exact this
theorem bXL{xs:List (List mQ)}(q:Sl 47 gN h (.slice b n c) xs)(E:∀h' f c',Le h h'->Sl 47 gN h' (.slice f n c') xs->k (.slice f n c') h'):
 Ct 119 [.slice b n c,.func (.func 117) #[] #[]] h k:=by
 have l:=q.len;obtain⟨lG,V⟩:=q.bound;have S:∀h,gN.R h [.zN] []:=λh=>⟨_,rfl,Sl.nil⟩;refine cB bXp Tryz.func119 λA D=>?_;cbv;refine jM (s:=gN) (x:=[]) S ip dl (λe y M L o1=>?_);obtain⟨J,H⟩:∃J:Nat->Int->ad->Prop,∀w z h',J w z h'=(∃i,bg z i/\w=n-i/\i<=n/\Le h h'/\dt 47 gN h' e n (xs.take i++List.replicate (n-i) [])):=⟨_,λ_ _ _=>rfl⟩;have P:J n 0 y:=by rw[H];exact⟨0,⟨rfl⟩,rfl,ip,L,o1⟩
 cbv;refine ba.gz (G:=Int) (λz=>[(13,.v (.zI z))]) (λ_=>[]) (λw z h'=>J w z h') n 0 P ?_
 intro w z C I;rw[H]at I;cbv;obtain⟨i,a,Y,X,g,o2⟩:=I;have fl:A .aQ .lss z (A .nat n)=decide (i<n):=by rw[aV A,a.eq,D.nat];grind
 rw[fl];by_cases d:i<n
 .obtain⟨x,hx⟩:=cK xs i;have ix:=a.ix d;have Z:n-(i+1)<w:=ip
  have ly:=a.succ (A:=A);have Q:=pO (x0:=[]) hx d l;have F:i<(xs.take i++List.replicate (n-i) ([]:(List mQ))).length:=gg
  have m:∀h',Le h h'->dt 47 gN h' e n (xs.take (i+1)++List.replicate (n-(i+1)) [])->J (n-(i+1)) (A .aX .add .i64 z 1) h':=λh' l' o'=>by
   grind
  rw[kS d];clear fl H P;generalize xs.take i++List.replicate (n-i) []=ys at *;generalize xs.take (i+1)++List.replicate (n-(i+1)) []=zs at *;cbv;refine⟨⟨q.bu,ix⟩,?_⟩;cbv;refine(q.mono (g.t _)).load hx a.eq (λcs u=>?_);obtain⟨v,rfl,r⟩:=u;obtain⟨vb,t,vc,rfl⟩:∃vb t vc,v=.slice vb t vc:=by
   obtain⟨f,cap,e1,-⟩:=r.out
   grind
  cbv;refine Ts r (λW T U o R=>?_);cbv;refine⟨⟨rfl,ix⟩,?_⟩;cbv;refine(o2.mono (o.t _)).setAt dl (i:=i) F a.eq rfl ⟨_,rfl,R⟩ (λj K t4 p=>?_);rw[Q]at p;have O:Le h j:=(g.trans o).bf (bs:=[e]) (iu M) K;have:=m j O p;clear m;cbv;refine zqn (n-(i+1)) (A .aX .add .i64 z 1) Z this
 have N:i=n:=ip
 have B:xs.take i++List.replicate (n-i) []=xs:=by rw[N,kKd,kXe ip];simp
 rw[B]at o2;have:=E C (zsA e) n g (o2.sl l);rw[kQW d];cbv;exact this
theorem bXE{x:Int}{c e:Option Addr}{g b j:Nat}{o:List mQ}{bs:List nV}{ts:List (List mQ)}(q:vr h c n g d a i e b j ⟨x,o,bs,ts⟩)
 (z:∀h' M W f U H G,Le h h'->vr h' M n W f a U H b G ⟨x,o,bs,ts⟩->k (.agg #[.zI x,.slice M n W,.slice f a U,.slice H b G]) h'):
 Ct 48 [.agg #[.zI x,.slice c n g,.slice d a i,.slice e b j]] h k:=by
 refine cB fZC Tryz.func48 λA I=>?_;cbv;refine Ts q.oO (λE s u p B=>?_);cbv;refine(Tb (q.dq.mono (p.t _))).mono (λv F hR=>?_);obtain⟨r,f,U,rfl,C⟩:=hR;have m:=p.trans r;cbv;refine bXL (q.Fi.mono (m.t _)) (λy t w l D=>?_);have:=z y s u f U t w (m.trans l) ⟨B.mono ((r.trans l).t _),C.sl.mono (l.t _),D⟩;cbv;exact this
theorem QX{xs:List cR}(q:Sl 161 bD h (.slice b n c) xs)
 (Q:∀h' m c',Le h h'->bA 161 bD h h' (.slice m n c') xs->k (.agg #[.zI id,.slice m n c']) h'):
 Ct 125 [.agg #[.zI id,.slice b n c]] h k:=by
 have l:=q.len;obtain⟨lG,gQ⟩:=q.bound;have vN:∀h,bD.R h [.string ⟨#[]⟩,.zI 0,.zN] vG:=λh=>⟨_,_,_,rfl,Sl.nil⟩;refine cB eKO Tryz.func125 λA O=>?_;cbv;refine jM (s:=bD) (x:=vG) vN ip dl (λf F M U o1=>?_);obtain⟨J,H⟩:∃J:Nat->Int->ad->Prop,∀w z h',J w z h'=(∃i,bg z i/\w=n-i/\i<=n/\Le h h'/\dt 161 bD h' f n (xs.take i++List.replicate (n-i) vG)):=⟨_,λ_ _ _=>rfl⟩;have P:J n 0 F:=by rw[H];exact⟨0,⟨rfl⟩,rfl,ip,U,o1⟩
 cbv;refine ba.gz (G:=Int) (λz=>[(13,.v (.zI z))]) (λ_=>[(1,[.zI id,.slice b n c]),(2,[.zI 0,.zN])]) (λw z h'=>J w z h') n 0 P ?_
 intro w z K I;rw[H]at I;cbv;obtain⟨i,d,hw,hi,j,o2⟩:=I;have fl:A .aQ .lss z (A .nat n)=decide (i<n):=by rw[aV A,d.eq,O.nat];exact decide_eq_decide.2 (by show(i:Int)<(n:Int)↔_;omega)
 rw[fl];by_cases e:i<n
 .obtain⟨x,hx⟩:=cK xs i;have ix:=d.ix e;have Z:n-(i+1)<w:=ip
  have Y:=d.succ (A:=A);have pQ:=pO (x0:=vG) hx e l;have R:i<(xs.take i++List.replicate (n-i) (vG:cR)).length:=by rw[kXy,tT,kJI];omega
  have o:∀h',Le h h'->dt 161 bD h' f n (xs.take (i+1)++List.replicate (n-(i+1)) vG)->J (n-(i+1)) (A .aX .add .i64 z 1) h':=λh' T o'=>by
   rw[H];exact⟨i+1,Y,rfl,ip,T,o'⟩
  rw[kS e];clear fl H P;generalize xs.take i++List.replicate (n-i) vG=ys at *;generalize xs.take (i+1)++List.replicate (n-(i+1)) vG=zs at *;cbv;refine⟨⟨q.bu,ix⟩,?_⟩;cbv;refine(q.mono (j.t _)).load hx d.eq (λcs y=>?_);obtain⟨b1,t,c1,rfl,E⟩:=y;have hR:∀h' g W,Sl 45 bG h' (.slice g t W) x.row->bD.R h' [.string x.table,.zI x.op,.slice g t W] x:=λh' g W a=>⟨_,_,_,rfl,a⟩;generalize x.table=xn at *;generalize x.op=xk at *;cbv;refine(Dm E).mono (λv L V=>?_);obtain⟨r,C,D,rfl,q3⟩:=V;have V:=hR L C D q3.sl;cbv;refine⟨⟨rfl,ix⟩,?_⟩;cbv;refine(o2.mono (r.t _)).setAt dl (i:=i) R d.eq rfl V (λp S t4 u=>?_);rw[pQ]at u;have X:Le h p:=(j.trans r).bf (bs:=[f]) (iu M) S;have:=o p X u;clear o;cbv;refine zqn (n-(i+1)) (A .aX .add .i64 z 1) Z this
 have N:i=n:=ip
 have B:xs.take i++List.replicate (n-i) vG=xs:=by rw[N,kKd,kXe ip];simp
 rw[B]at o2;have:=Q K (zsA f) n j (o2.buf M l);rw[kQW e];cbv;exact this
theorem Tt{xs:List mQ}(q:Sl 172 eD h (.slice b n c) xs)
 (O:∀h' m c',Le h h'->bA 172 eD h h' (.slice m n c') xs->k (.slice m n c') h'):
 Ct 242 [.slice b n c] h k:=by
 have l:=q.len;obtain⟨lG,gQ⟩:=q.bound;have vN:∀h,eD.R h [.zI 0,.zN] vt:=λh=>⟨_,_,_,rfl,Sl.nil⟩;refine cB eZS Tryz.func242 λA L=>?_;cbv;refine jM (s:=eD) (x:=vt) vN ip dl (λf D M T o1=>?_);obtain⟨J,H⟩:∃J:Nat->Int->ad->Prop,∀w z h',J w z h'=(∃i,bg z i/\w=n-i/\i<=n/\Le h h'/\dt 172 eD h' f n (xs.take i++List.replicate (n-i) vt)):=⟨_,λ_ _ _=>rfl⟩;have P:J n 0 D:=by rw[H];exact⟨0,⟨rfl⟩,rfl,ip,T,o1⟩
 cbv;refine ba.gz (G:=Int) (λz=>[(11,.v (.zI z))]) (λ_=>[]) (λw z h'=>J w z h') n 0 P ?_
 intro w z F I;rw[H]at I;cbv;obtain⟨i,d,hw,hi,j,o2⟩:=I;have fl:A .aQ .lss z (A .nat n)=decide (i<n):=by rw[aV A,d.eq,L.nat];exact decide_eq_decide.2 (by show(i:Int)<(n:Int)↔_;omega)
 rw[fl];by_cases e:i<n
 .obtain⟨x,hx⟩:=cK xs i;have ix:=d.ix e;have Z:n-(i+1)<w:=ip
  have X:=d.succ (A:=A);have Y:=pO (x0:=vt) hx e l;have Q:i<(xs.take i++List.replicate (n-i) (vt:mQ)).length:=by rw[kXy,tT,kJI];omega
  have o:∀h',Le h h'->dt 172 eD h' f n (xs.take (i+1)++List.replicate (n-(i+1)) vt)->J (n-(i+1)) (A .aX .add .i64 z 1) h':=λh' S o'=>by
   rw[H];exact⟨i+1,X,rfl,ip,S,o'⟩
  rw[kS e];clear fl H P;generalize xs.take i++List.replicate (n-i) vt=ys at *;generalize xs.take (i+1)++List.replicate (n-(i+1)) vt=zs at *;cbv;refine⟨⟨q.bu,ix⟩,?_⟩;cbv;refine(q.mono (j.t _)).load hx d.eq (λcs v=>?_);obtain⟨b1,t,c1,rfl,E⟩:=v;have hR:∀h' g W,Sl 161 bD h' (.slice g t W) x.KL->eD.R h' [.zI x.id,.slice g t W] x:=λh' g W a=>⟨_,_,_,rfl,a⟩;generalize x.id=xn at *;cbv;refine QX E (λK y C r q3=>?_);have V:=hR K y C q3.sl;cbv;refine⟨⟨rfl,ix⟩,?_⟩;cbv;refine(o2.mono (r.t _)).setAt dl (i:=i) Q d.eq rfl V (λp R t4 u=>?_);rw[Y]at u;have U:Le h p:=(j.trans r).bf (bs:=[f]) (iu M) R;have:=o p U u;clear o;cbv;refine zqn (n-(i+1)) (A .aX .add .i64 z 1) Z this
 have N:i=n:=ip
 have B:xs.take i++List.replicate (n-i) vt=xs:=by rw[N,kKd,kXe ip];simp
 rw[B]at o2;have:=O F (zsA f) n j (o2.buf M l);rw[kQW e];cbv;exact this
theorem bXZ{f:FuncId}{args:List Value}{P:Value->ad->Prop}(l:Le h0 h)(c:Ct f args h0 (λv h'=>Le h0 h'/\P v h'))
 (b:∀v Z h',P v Z->Le h0 Z->Le Z h'->Le h h'->Fr h0 h Z h'->k v h'):Ct f args h k:=
 Hl.cJc l c (λv y h' hR a fr=>b v y h' hR.2 hR.1 a (fr.le l hR.1 a) fr)
theorem _root_.Go.Sx.Fr.lt{T L:ad}(fr:Fr T h L h')(l:Le T h)(f:Le L h'){tys:List Nat}(t:cX tys T L):cX tys h h':=by
 intro b c e m d a;cases V:T b with
 |none=>exact(fr b _ V a).1
 |some o=>have:=l _ _ V;rw[a]at this;cases this;exact f _ _ (t _ _ _ _ d V)
theorem _root_.Go.Sx.bA.Th{a:Type}{s:Sh a}{T L:ad}{v:Value}{xs:List a}(q:bA e s T h v xs)(t:cX (e::s.tys) h h')(fr:Fr T h L h'):bA e s L h' v xs:=by
 rcases q.out with g| ⟨n,cap,b,d,o⟩
 .exact⟨.inl g⟩
 obtain⟨c,f,-⟩:=o.out;exact⟨.inr ⟨n,cap,b,(fr n _ d f).2,o.mono t⟩⟩
theorem _root_.Go.Sx.Hy.stat{T:ad}(l:Le T h){a:Addr}{cs:List Value}{i:ad->Prop}(q:Hy T a cs i){k:ad->Prop}(s:∀L h',i L->Le L h'->Fr T h L h'->k h'):Hy h a cs k:=by
 obtain⟨c,e,fr,j,f,m,p,r⟩:=q.out;refine⟨c,e,fr,j,l _ _ f,m,p,λh' g=>s _ h' (r _ rfl) (λb o d=>?_) (λb o n d=>?_)⟩
 .rw[g];by_cases A:b=a.block
  .subst A;rw[ae]at d |-;exact d
  rw[cH A]at d |-;exact l _ _ d
 have A:b≠a.block:=λe=>by rw[e,f]at n;cases n
 rw[g,cH A,cH A];exact⟨d,n⟩
theorem _root_.Go.Sx.rk.stat{T:ad}(l:Le T h){n c:Int}{z:List Value}{g:Value->ad->Prop}(q:rk T e n c bytes z g)(p:∀v L h',g v L->Le L h'->Fr T h L h'->k v h'):rk h e n c bytes z k:=by
 obtain⟨i,j,m⟩:=q;refine⟨i,j,λd h' e1 f=>p _ _ h' (m d _ (l.none e1) rfl) (λb o a=>?_) (λb o r a=>?_)⟩
 .rw[f];by_cases A:b=d
  .subst A;rw[ae]at a |-;exact a
  rw[cH A]at a |-;exact l _ _ a
 have A:b≠d:=λe=>by rw[e,e1]at a;cases a
 rw[f,cH A,cH A];exact⟨a,r⟩
structure QV(h hT h':ad)(n1 n2 n:Nat)(op:List mQ)(bs:List nV)(o1 o2:Option (Option Addr×Nat))(o3:Option Nat):Prop where
 l1:Le h hT
 l2:Le hT h'
 a:∀x,o1=some x->bA 172 eD hT h' (.slice x.1 n1 x.2) op
 b:∀x,o2=some x->bA 224 ek h hT (.slice x.1 n2 x.2) bs
 c:∀nb,o3=some nb->h nb=none/\dt 47 gN hT nb n (List.replicate n [])
theorem QV.s1{T:ad}{p:List mQ}{bs:List nV}{g:Option Nat}(q:QV h T h' a f n p bs none o2 g)(s:Sl 172 eD h (.slice d a e) p)
 (i:∀t b c,QV h T t a f n p bs (some (b,c)) o2 g->k (.slice b a c) t):Ct 242 [.slice d a e] h' k:=
 Tt (s.mono ((q.l1.trans q.l2).t _)) (λt b c l o=>i t b c ⟨q.l1,q.l2.trans l,λx hx=>by cases hx;exact o.base q.l2,q.b,q.c⟩)
theorem QV.s2{T:ad}{p:List mQ}{bs:List nV}{o:Option Nat}(q:QV h T h' f a n p bs o1 none o)(s:Sl 224 ek h (.slice d a e) bs)
 (m:∀L t b c,QV h L t f a n p bs o1 (some (b,c)) o->k (.slice b a c) t):Ct 118 [.slice d a e] h' k:=
 bXZ q.l2 ((Tb (s.mono (q.l1.t _))).mono (λv h' hR=>hR)) (λv j l hR Z r i Ei=>by
  obtain⟨K,U,rfl,o2⟩:=hR;exact m j l K U ⟨q.l1.trans Z,r,λx hx=>(q.a x hx).Th (i.t _) Ei,λx hx=>by cases hx;exact o2.base q.l1,λg M=>⟨(q.c g M).1,(q.c g M).2.mono (Z.t _)⟩⟩)
theorem QV.s3[bM A]{T:ad}{d:Nat}{o:List mQ}{bs:List nV}(q:QV h T h' a d n o bs o1 o2 none)(r:n<=2^40)(m:bytes<=128)
 (p:∀L t b,QV h L t a d n o bs o1 o2 (some b)->k (.slice (zsA b) n n) t):rk h' 47 (A .nat n) (A .nat n) bytes [.zN] k:=
 rk.stat q.l2 (jM (s:=gN) (x:=[]) (λ_=>⟨_,rfl,Sl.nil⟩) r m (k:=λv c=>∃b,v=.slice (zsA b) n n/\T b=none/\Le T c/\dt 47 gN c b n (List.replicate n [])) (λb h' e1 e i=>⟨b,rfl,e1,e,i⟩)) (λv c j hR l f=>by
  obtain⟨b,rfl,M,Q,u⟩:=hR;exact p c j b ⟨q.l1.trans Q,l,λx hx=>(q.a x hx).Th (f.lt q.l2 l (Q.t _)) f,λx hx=>(q.b x hx).mono (Q.t _),λZ g=>by cases g;exact⟨q.l1.none M,u⟩⟩)
theorem _root_.Go.Sx.Ai.le(l:Le h h'){a:Addr}{k:List Value->Prop}(q:Ai h a n k):Ai h' a n k:=by obtain⟨cs,⟨b,d,c,e,fr,f,g⟩,i⟩:=q.out;exact⟨cs,⟨b,d,c,e,fr,l _ _ f,g⟩,i⟩
theorem _root_.Go.Sx.Sl.MB{a:Type}[bM A]{s:Sh a}{len:Nat}{xs:List a}(q:Sl e s h (.slice b len cap) xs)(l:Le h h'){x:a}(hx:xs[i]? =some x){n:Int}(d:n=(i:Int))
 {k:List Value->Prop} (c:∀cs,s.R h cs x->k cs):Ai h' (A.jt b n s.n) s.n k:=Ai.le l (q.load hx d c)
theorem cKi{u:Int}{f j:Option Addr}{d:Nat}{s:List mQ}{bs:List nV}{xs:List (List mQ)}(ql:vr h f a m j d p b n c ⟨u,s,bs,xs⟩)
 (hk:∀T h' M W K U jH jG,Le h T->Le T h'->bA 172 eD T h' (.slice M a W) s->bA 224 ek h T (.slice K d U) bs->bA 47 gN h T (.slice jH n jG) xs->
  k (.agg #[.zI u,.slice M a W,.slice K d U,.slice jH n jG]) h'):
 Ct 124 [.agg #[.zI u,.slice f a m,.slice j d p,.slice b n c]] h k:=by
 obtain⟨A,hA⟩:=Ar.ex;have q:Sl 47 gN h (.slice b n c) xs:=ql.Fi;have r:=q.len;obtain⟨lG,gQ⟩:=q.bound;have vN:∀h,gN.R h [.zN] []:=λh=>⟨_,rfl,Sl.nil⟩;obtain⟨C,I⟩:∃C:(Option Addr×Nat×Option Addr×Nat×Nat)->ad->Prop,∀g h',C g h'=(∃T,QV h T h' a d n s bs (some (g.1,g.2.1)) (some (g.2.2.1,g.2.2.2.1)) (some g.2.2.2.2)):=⟨_,λ_ _=>rfl⟩;have Bw:∀T h' f m j p e,QV h T h' a d n s bs (some (f,m)) (some (j,p)) (some e)->C (f,m,j,p,e) h':=λT h' f m j p e q=>by rw[I];exact⟨T,q⟩
 have q0:QV h h h a d n s bs none none none:=⟨Le.refl _,Le.refl _,λ_ hx=>(by cases hx),λ_ hx=>(by cases hx),λ_ hx=>(by cases hx)⟩;have qo:=ql.oO;have qk:=ql.dq;have X:n<=2^40:=ip
 refine fT A [2] (aj eKP.aw eKP.bz) Tryz.func124 rfl (by kernel_rfl) ?_;cbv;refine kK.go (G:=Option Addr×Nat×Option Addr×Nat×Nat) (λ_=>[(3,.loc 3 0)]) (λg=>[(1,[.zI u,.slice f a m,.slice j d p,.slice b n c]),(2,[.zI 0,.zN,.zN,.zN]),(3,[.zI u,.slice g.1 a g.2.1,.slice g.2.2.1 d g.2.2.2.1,.slice (some ⟨g.2.2.2.2,0,none⟩) n n])]) C ?_ ?_
 .cbv;clear I hk;repeat' first
   | (refine⟨(_,_,_,_,_),⟨?_,?_,?_⟩,Bw _ _ _ _ _ _ _ (by assumption)⟩<;>cbv)
   | (refine⟨?_,?_⟩)
   | (refine QV.s1 (by assumption) qo (λ_ _ _ _=>?_);cbv)
   | (refine QV.s2 (by assumption) qk (λ_ _ _ _ _=>?_);cbv)
   | (refine QV.s3 (by assumption) X dl (λ_ _ _ _=>?_);cbv)
 intro g h1 hC;rw[I]at hC;cbv;obtain⟨M,W,K,U,e⟩:=g;obtain⟨T,B⟩:=hC;have o1:bA 172 eD T h1 (.slice M a W) s:=B.a _ rfl;have o2:bA 224 ek h T (.slice K d U) bs:=B.b _ rfl;obtain⟨eM,F⟩:=B.c e rfl;have y:=B.l1;have l1:=B.l2;clear B Bw I;obtain⟨J,H⟩:∃J:Nat->Int->ad->Prop,∀w z h',J w z h'=(∃i T,bg z i/\w=n-i/\i<=n/\Le h T/\Le T h'/\bA 172 eD T h' (.slice M a W) s/\bA 224 ek h T (.slice K d U) bs/\dt 47 gN T e n (xs.take i++List.replicate (n-i) [])):=⟨_,λ_ _ _=>rfl⟩;have dP:J n 0 h1:=by rw[H];exact⟨0,T,⟨rfl⟩,rfl,ip,y,l1,o1,o2,F⟩
 refine ba.gz (G:=Int) (λz=>[(22,.v (.zI z))]) (λ_=>[(1,[.zI u,.slice f a m,.slice j d p,.slice b n c]),(2,[.zI 0,.zN,.zN,.zN]),(3,[.zI u,.slice M a W,.slice K d U,.slice (zsA e) n n])]) (λw z h'=>J w z h') n 0 dP ?_
 intro w z h2 hI;rw[H]at hI;cbv;obtain⟨i,T,E,hw,hi,y,l2,o1,o2,F⟩:=hI;have fl:A .aQ .lss z (A .nat n)=decide (i<n):=by rw[aV A,E.eq,hA.nat];exact decide_eq_decide.2 (by show(i:Int)<(n:Int)↔_;omega)
 rw[fl];by_cases L:i<n
 .obtain⟨x,hx⟩:=cK xs i;have ix:=E.ix L;have aZ:n-(i+1)<w:=ip
  have ly:=E.succ (A:=A);have pQ:=pO (x0:=[]) hx L r;have ic:i<(xs.take i++List.replicate (n-i) ([]:List mQ)).length:=by rw[kXy,tT,kJI];omega
  have cm:∀T h',Le h T->Le T h'->bA 172 eD T h' (.slice M a W) s->bA 224 ek h T (.slice K d U) bs->dt 47 gN T e n (xs.take (i+1)++List.replicate (n-(i+1)) [])->J (n-(i+1)) (A .aX .add .i64 z 1) h':=λT h' a1 a2 a3 a4 a5=>by
   rw[H];exact⟨i+1,T,ly,rfl,ip,a1,a2,a3,a4,a5⟩
  rw[kS L];clear fl H dP;generalize xs.take i++List.replicate (n-i) []=ys at *;generalize xs.take (i+1)++List.replicate (n-(i+1)) []=zs at *;cbv;refine⟨⟨q.bu,ix⟩,?_⟩;cbv;refine q.MB (y.trans l2) hx E.eq (λcs ar=>?_);obtain⟨v,rfl,qv⟩:=ar;obtain⟨vb,N,vc,rfl⟩:∃vb N vc,v=.slice vb N vc:=by obtain⟨b',cap,e1,-⟩:=qv.out;exact⟨_,_,_,e1⟩
  cbv;refine bXZ l2 (Tt (qv.mono (y.t _)) (k:=λv h'=>Le T h'/\∃b c,v=.slice b N c/\bA 172 eD T h' (.slice b N c) x) (λh' b c l o=>⟨l,b,c,rfl,o⟩)) (λv Z h3 hR Q l3 PF P=>?_);obtain⟨b3,c3,rfl,q3⟩:=hR;have O:=o1.Th (PF.t _) P;have R:=o2.mono (Q.t _);have S:=F.mono (Q.t _);have V:=y.trans Q;cbv;repeat (refine zqr ?_;cbv)
  refine⟨⟨rfl,ix⟩,?_⟩;cbv;refine Hy.stat l3 (S.setAt dl (i:=i) ic E.eq rfl (x:=x) ⟨_,rfl,q3.sl⟩ (k:=λh'=>Kp [e] Z h'/\(∀tys,47∉tys->cX tys Z h')/\dt 47 gN h' e n (ys.set i x)) (λh' k t o=>⟨k,t,o⟩)) (λY h4 hR l4 D=>?_);obtain⟨k4,t4,o4⟩:=hR;rw[pQ]at o4;have:=cm Y h4 (V.bf (bs:=[e]) (iu eM) k4) l4 (O.Th (D.lt l3 l4 (t4 _ dl)) D) (R.mono (t4 _ dl)) o4;clear cm;cbv;refine zqn (n-(i+1)) (A .aX .add .i64 z 1) aZ this
 have fN:i=n:=ip
 have Bg:xs.take i++List.replicate (n-i) []=xs:=by rw[fN,kKd,kXe ip];simp
 rw[Bg]at F;have:=hk T h2 M W K U (zsA e) n y l2 o1 o2 (F.buf eM r);rw[kQW L];cbv;exact this
def wv(bs:List nV):Bs:=((bs.getLast?).map eo).getD (List.replicate 32 0)
def xw(op:List mQ):List Bs:=op.map λt=>ko t.id t.KL
def jQ(op:List mQ)(bs:List nV):nV:=⟨((bs.length+1:Nat):Int),wv bs,gW (xw op),(op.length:Int)⟩
def dp(L:eO):eO:=⟨L.next,[],L.dq++[jQ L.oO L.dq],L.Fi++[L.oO]⟩
structure Ej(t:mQ):Prop where
 len:t.KL.length<=2^30
 dQK:∀c∈t.KL,yT c
structure TC(h0 h:ad)(p:Nat)(d l s:Int)(b1:Option Addr)(n1 c1:Nat)(b2:Option Addr)(n2 c2:Nat)(b3:Option Addr)(n3 c3:Nat)(L:eO):Prop where
 out:h p=zcL 277 [.zI L.next,.slice b1 n1 c1,.slice b2 n2 c2,.slice b3 n3 c3,.zU d,.int .i32 l,.zU s]
 op:bA 172 eD h0 h (.slice b1 n1 c1) L.oO
 bk:bA 224 ek h0 h (.slice b2 n2 c2) L.dq
 tx:bA 47 gN h0 h (.slice b3 n3 c3) L.Fi
 new:h0 p=none
 le:Le h0 h
theorem Ny{o:List mQ}{t:mQ}(h:o[i]? =some t):(xw o)[i]? =some (ko t.id t.KL):=by
 grind [xw]
theorem BL(b:nV):(eo b).length=32:=gu _
theorem Tw{d l s:Int}{M b2 b3:Option Addr}{c1 c2 n3 c3:Nat}{I:Int}{o:List mQ}{bs:List nV}{ts:List (List mQ)}(q:TC h0 h p d l s M a c1 b2 n c2 b3 n3 c3 ⟨I,o,bs,ts⟩)
 (hB:∀t∈o,Ej t) (ho:o.length<=2^20) (hb:bs.length<=2^20) (ht:ts.length<=2^20) 
 (hk:∀h' fK me fU jH rH jG,(∀tys,277∉tys->224∉tys->47∉tys->cX tys h h')->TC h0 h' p d l s none 0 0 fK me fU jH rH jG (dp ⟨I,o,bs,ts⟩)->k (.tuple #[]) h'):
 Ct 127 [.zP p] h k:=by
 obtain⟨A,S⟩:=Ar.ex;have g0:=q.out;have fG:a=o.length:=q.op.sl.len;have fA:n=bs.length:=q.bk.sl.len;have Hq:n3=ts.length:=q.tx.sl.len;have ld:bg (A .aX .add .i64 (A .nat n) 1) (n+1):=(bg.nat n).succ (A:=A);obtain⟨j,PK⟩:∃j,j=A .aX .add .i64 (A .nat n) 1:=⟨_,rfl⟩;rw[<-PK]at ld;have an:j=((bs.length+1:Nat):Int):=by rw[ld.eq,fA]
 have hE:dp ⟨I,o,bs,ts⟩=⟨I,[],bs++[⟨j,wv bs,gW (xw o),A .nat a⟩],ts++[o]⟩:=by rw[an,S.nat,fG];rfl
 rw[hE]at hk;clear hE;have mC:∀ {i:Nat} {t:mQ},o[i]? =some t->(xw o)[i]? =some (ko t.id t.KL):=λh=>Ny h;have aH:(xw o).length=o.length:=by unfold xw;simp
 generalize xw o=E at *;obtain⟨J,O⟩:∃J:Nat->((Option Addr×Nat×Nat)×Int)->ad->Prop,∀w g h',J w g h'=(∃i,bg g.2 i/\w=a-i/\i<=a/\Le h h'/\bA 100 yV h h' (.slice g.1.1 g.1.2.1 g.1.2.2) (E.take i)):=⟨_,λ_ _ _=>rfl⟩;have dP:J a ((none,0,0),0) h:=by rw[O];exact⟨0,⟨rfl⟩,rfl,ip,Le.refl _,bA.nil⟩
 refine fT A [10] (aj eKN.aw eKN.bz) Tryz.func127 rfl (by kernel_rfl) ?_;cbv;repeat (first|rw[av A] | (refine cy g0 ?_;cbv))
 refine ba.gz (G:=(Option Addr×Nat×Nat)×Int) (λg=>[(2,.v (.slice g.1.1 g.1.2.1 g.1.2.2)),(13,.v (.zI g.2))]) (λ_=>[]) (λw g h'=>J w g h') a ((none,0,0),0) dP ?_
 intro w g h2 hI;rw[O]at hI;cbv;obtain⟨⟨gb,m,gc⟩,z⟩:=g;obtain⟨i,D,hw,hi,W,K⟩:=hI;have D:bg z i:=D;have K:bA 100 yV h h2 (.slice gb m gc) (E.take i):=K;have nQ:=K.sl.len;rw[kJI]at nQ;have f1:A .aQ .lss z (A .nat a)=decide (i<a):=by rw[aV A,D.eq,S.nat];grind
 rw[f1];by_cases hc:i<a
 .rw[kS hc];obtain⟨x,hx⟩:=cK o i;have MO:=hB x (kQR hx);have ix:=D.ix hc;have iK:M.isSome=true:=q.op.sl.bu;have aZ:a-(i+1)<w:=ip
  have fV:=mI (mC hx);have cm:∀b' m' c' h',Le h h'->bA 100 yV h h' (.slice b' m' c') (E.take i++[ko x.id x.KL])->J (a-(i+1)) ((b',m',c'),A .aX .add .i64 z 1) h':=λb' m' c' h' l' q'=>by
   rw[O];exact⟨i+1,D.succ (A:=A),rfl,hc,l',gg⟩
  have oU:m+1<=2^39:=ip
  have mg:(ko x.id x.KL).length=32:=gu _;have ax:=q.op.sl;clear f1 O dP fV mC;generalize E.take i=Lc at *;obtain⟨TJ,HZ⟩:=x;cbv;refine⟨⟨iK,ix⟩,?_⟩;cbv;refine ax.MB W hx D.eq (λcs f=>?_);obtain⟨rb,rn,rc,rfl,qr⟩:=f;have qr:Sl 161 bD h (.slice rb rn rc) HZ:=qr;have Bj:rn<=2^30:=by rw[qr.len];exact MO.len
  cbv;refine cKk (qr.mono (W.t _)) MO.dQK Bj (λh3 g Y hg=>?_);have mg:(ko TJ HZ).length=32:=mg;generalize ko TJ HZ=RH at *;cbv;intro n4 h4 Gq e4;have l4:Le h3 h4:=zqs e4 Gq
  have q4:=bh (s:=yV) (cs:=hl g) (zqt e4) (FA (h:=h4) hg mg);clear e4;cbv;refine(K.mono ((Y.trans l4).t _)).append q4 dl rfl dl oU ((W.trans Y).trans l4) (λm5 b5 c5 v KC F t5 k5 q5=>?_);have iL:=cm b5 m5 c5 v F q5;clear cm k5;cbv;refine zqn _ ((b5,m5,c5),A .aX .add .i64 z 1) aZ iL
 rw[kQW hc];rw[kXe ip]at K;have Sv:m=a:=ip
 subst Sv;have g2:=W _ _ g0;clear O dP mC;cbv;repeat (first|rw[av A] | (refine cy g2 ?_;cbv)|(refine zqr ?_;cbv))
 refine bJH E.length K.sl (qA _) (λh3 g1 Y ui mg=>?_);have PF:=W.trans Y;have g3:=Y _ _ g2;have CN:(wv bs).length=32:=by
  grind [wv,BL]
 generalize gW E=root at *;obtain⟨r,Gn⟩:∃r,r=wv bs:=⟨_,rfl⟩;rw[<-Gn]at hk CN;obtain⟨C,fo⟩:∃C:(Nat->Int)->ad->Prop,∀g h',C g h'=(Le h h'/\hl g=aT r):=⟨_,λ_ _=>rfl⟩;cbv;repeat (first|rw[av A] | (refine cy g3 ?_;cbv)|(refine zqr ?_;cbv))
 rw[<-PK];have f2:A .aQ .gtr (A .nat n) 0=decide (0<n):=by rw[bF A,S.nat];grind
 obtain⟨z0,yF⟩:∃z0,z0=A .aX .sub .i64 (A .nat n) 1:=⟨_,rfl⟩;have xY:0<n->bg z0 (n-1):=λh=>⟨by
  rw[yF,S.aX,S.nat];show IntKind.i64.wrap ((n:Int)-1)=_;rw[IntWalk.i64_in _ ip];omega⟩
 refine kK.go (G:=Nat->Int) (λ_=>[]) (λg=>[(5,Aw j g g1 (A .nat m))]) C ?_ ?_
 .cbv;repeat (first|rw[av A] | (refine cy g3 ?_;cbv)|(refine zqr ?_;cbv))
  rw[f2];by_cases kD:0<n
  .obtain⟨x,hx⟩:=cK bs (n-1);have L:r=eo x:=by
    grind [wv,hx]
   have Bw:∀g h',Le h h'->hl g=aT (eo x)->C g h':=λg h' l' hg=>gg
   have xY:=xY kD;have ix:=xY.ix (len:=n) ip;have iK:b2.isSome=true:=q.bk.sl.bu;have az:=q.bk.sl;rw[kS kD];clear f2 fo;cbv;repeat (first|rw[av A] | (refine cy g3 ?_;cbv)|(refine zqr ?_;cbv))
   rw[<-yF];refine⟨⟨iK,ix⟩,?_⟩;cbv;refine az.MB PF hx xY.eq (λcs f=>?_);obtain⟨f,hp,hr⟩:=f;obtain⟨xn,xp,xr,xc⟩:=x;obtain⟨gp,IV⟩:=tJ (b:=xp) hp;obtain⟨gr,IU⟩:=tJ (b:=xr) hr;have f:cs=Aw xn gp gr xc:=by rw[f,nF,IV,IU]
   subst f;cbv;refine bJO IV IU hp hr (λv u F ab=>?_);have B:=Bw u v (PF.trans F) ab;clear Bw;cbv;refine⟨u,⟨?_,?_,?_⟩,B⟩<;>cbv
  have L:r=List.replicate 32 0:=by rw[Gn];have:bs=[]:=kZh ip;subst this;rfl
  have B:C (λ_=>0) h3:=by rw[fo,L];exact⟨PF,rfl⟩
  rw[kQW kD];clear f2 fo;cbv;refine⟨_,⟨?_,?_,?_⟩,B⟩<;>cbv
 intro g h4 B;rw[fo]at B;cbv;obtain⟨l4,hg⟩:=B;have g4:=l4 _ _ g0;repeat (first|rw[av A] | (refine cy g4 ?_;cbv)|(refine zqr ?_;cbv))
 intro nn v sQ e5;have F:Le h4 v:=zqs e5 sQ
 have qn:Sl 224 ek v (.slice (zsA nn) 1 1) [⟨j,r,root,A .nat m⟩]:=bh (s:=ek) (cs:=Aw j g g1 (A .nat m)) (zqt e5) ⟨(nF ..).trans (by rw[hg,ui]),CN,mg⟩;have P:=l4.trans F;have u:=F _ _ g4;clear e5;cbv;repeat (first|rw[av A] | (refine cy u ?_;cbv)|(refine zqr ?_;cbv))
 refine(q.bk.mono (P.t _)).app qn dl rfl dl ip (q.le.trans P) (λm6 b6 c6 h6 Sr l6 t6 k6 u6=>?_);have g6:h6 p=_:=k6 _ _ u (.inr (.inr (λc fr e=>by cases e)));have aF:∀tys,224∉tys->cX tys h h6:=λtys e=>(P.t tys).trans (t6 tys e);have Z:=(q.op.mono (P.t _)).mono (t6 _ dl);have T:=(q.tx.mono (P.t _)).mono (t6 _ dl);have ll:=q.new;clear k6 t6 qn u g4;cbv;repeat (first|rw[av A] | (refine cy g6 ?_;cbv)|(refine zqr ?_;cbv))
 refine jE g6 gg (λy e7=>?_);have R:=zqt e7;have x7:ep [277] h6 y:=by rw[e7];exact gU g6 dl
 have k7:Kp [p] h6 y:=by rw[e7];exact Kp.set io
 have R:y p=zcL 277 [.zI I,.slice M m c1,.slice b6 m6 c6,.slice b3 n3 c3,.zU d,.int .i32 l,.zU s]:=R;clear e7;have aE:∀tys,277∉tys->224∉tys->cX tys h y:=λtys e1 Q=>(aF tys Q).trans (x7.t (λt ht he=>e1 (kXK.1 he ▸ ht)));have aw:=Z.mono (x7.t dl);have aA:=T.mono (x7.t dl);have aC:=u6.mono (x7.t dl);have l7:Le h0 y:=l6.bf (bs:=[p]) (iu ll) k7;clear Z T u6 x7 k7 l6 g6;cbv;repeat (first|rw[av A] | (refine cy R ?_;cbv)|(refine zqr ?_;cbv))
 intro U h8 aq e8;have H:Le y h8:=zqs e8 aq
 have g8:=H _ _ R;have X:Sl 47 gN h8 (.slice (zsA U) 1 1) [o]:=bh (s:=gN) (cs:=[.slice M m c1]) (zqt e8) ⟨_,rfl,aw.sl.mono (H.t _)⟩;clear e8;cbv;repeat (first|rw[av A] | (refine cy g8 ?_;cbv)|(refine zqr ?_;cbv))
 refine(aA.mono (H.t _)).app X dl rfl dl ip (l7.trans H) (λm9 b9 c9 h9 aG l9 t9 k9 u9=>?_);have g9:h9 p=_:=k9 _ _ g8 (.inr (.inr (λc fr e=>by cases e)));have aD:∀tys,277∉tys->224∉tys->47∉tys->cX tys h h9:=λtys e1 Q e3=>((aE tys e1 Q).trans (H.t tys)).trans (t9 tys e3);have aB:=(aC.mono (H.t _)).mono (t9 _ dl);clear k9 t9 X g8 R;cbv;repeat (first|rw[av A] | (refine cy g9 ?_;cbv)|(refine zqr ?_;cbv))
 refine jE g9 gg (λV rE=>?_);have N:=zqt rE;have ag:ep [277] h9 V:=by rw[rE];exact gU g9 dl
 have Be:Kp [p] h9 V:=by rw[rE];exact Kp.set io
 have N:V p=zcL 277 [.zI I,.slice M m c1,.slice b6 m6 c6,.slice b9 m9 c9,.zU d,.int .i32 l,.zU s]:=N;clear rE;cbv;repeat (first|rw[av A] | (refine cy N ?_;cbv)|(refine zqr ?_;cbv))
 refine jE N gg (λoV Hw=>?_);have al:=zqt Hw;have ao:ep [277] V oV:=by rw[Hw];exact gU N dl
 have ak:Kp [p] V oV:=by rw[Hw];exact Kp.set io
 have x0:=ag.trans ao;have:=hk oV b6 m6 c6 b9 m9 c9 (λtys e1 Q e3=>(aD tys e1 Q e3).trans (x0.t (λt ht he=>e1 gg))) ⟨al,bA.nil,aB.mono (x0.t dl),u9.mono (x0.t dl),ll,l9.bf (bs:=[p]) (iu ll) (Be.trans ak)⟩;clear hk Hw;cbv;exact this
def eZ(L:eO)(cs:List cR):eO:=if 4<=L.oO.length+1 then dp ⟨L.next+1,L.oO++[⟨L.next,cs⟩],L.dq,L.Fi⟩else⟨L.next+1,L.oO++[⟨L.next,cs⟩],L.dq,L.Fi⟩
structure xK(L:eO):Prop where
 nx:0<=L.next/\L.next<2^40
 op:∀t∈L.oO,Ej t
 n1:L.oO.length<=2^16
 n2:L.dq.length<=2^16
 n3:L.Fi.length<=2^16
theorem aXP{x:Int}{e i:Option Addr}{d o:Nat}{p:List mQ}{bs:List nV}{xs:List (List mQ)}(t:vr h e a m i d o b n c ⟨x,p,bs,xs⟩)
 (q:∀h' g W f U H j,Le h h'->vr h' g a W f d U H n j ⟨x,p,bs,xs⟩->k (.agg #[.zI x,.slice g a W,.slice f d U,.slice H n j]) h'):
 Ct 124 [.agg #[.zI x,.slice e a m,.slice i d o,.slice b n c]] h k:=
 cKi t (λT h' g W f U H j r l o1 o2 s=>q h' g W f U H j (r.trans l) ⟨o1.sl,(o2.mono (l.t _)).sl,(s.mono (l.t _)).sl⟩)
theorem TC.put{d l s:Int}{a c:Option Addr}{j g:Nat}{L:eO}(q:TC h0 h p d l s b n e a i f c j g L)(k m o:Int):
 TC h0 (bO h p (.cells #[.zI L.next,.slice b n e,.slice a i f,.slice c j g,.zU k,.int .i32 m,.zU o] 277 (0,0))) p k m o b n e a i f c j g L:=by
 have x:ep [277] h (bO h p (.cells #[.zI L.next,.slice b n e,.slice a i f,.slice c j g,.zU k,.int .i32 m,.zU o] 277 (0,0))):=gU q.out dl;have kp:Kp [p] h (bO h p (.cells #[.zI L.next,.slice b n e,.slice a i f,.slice c j g,.zU k,.int .i32 m,.zU o] 277 (0,0))):=Kp.set io;exact⟨ae,q.op.mono (x.t dl),q.bk.mono (x.t dl),q.tx.mono (x.t dl),q.new,q.le.bf (bs:=[p]) (iu q.new) kp⟩
theorem bJN{i:Int}{F I J:Option Addr}{v M N q O:Nat}{p:List mQ}{bs:List nV}{ts:List (List mQ)}{cs:List cR}(ql:vr h F v M I m N J q O ⟨i,p,bs,ts⟩)(qc:Sl 161 bD h (.slice b n c) cs)
 (hB:xK ⟨i,p,bs,ts⟩) (HN:Ej ⟨i,cs⟩) {L':eO} (L:eZ ⟨i,p,bs,ts⟩ cs=L') 
 (hk:∀h' F v M I m N J q O b c,Le h h'->vr h' F v M I m N J q O L'->Sl 161 bD h' (.slice b n c) cs->k (.tuple #[.agg #[.zI L'.next,.slice F v M,.slice I m N,.slice J q O],.agg #[.zI i,.slice b n c]]) h'):
 Ct 51 [.agg #[.zI i,.slice F v M,.slice I m N,.slice J q O],.slice b n c] h k:=by
 obtain⟨A,hA⟩:=Ar.ex;have fG:v=p.length:=ql.oO.len;have lG:p.length<=2^16:=hB.n1;have gQ:bs.length<=2^16:=hB.n2;have yL:ts.length<=2^16:=hB.n3;have gO:0<=i/\i<2^40:=hB.nx;have hz:A .aX .add .i64 i 1=i+1:=by rw[hA.aX];show IntKind.i64.wrap (i+1)=_;rw[IntWalk.i64_in _ ip]
 refine fT A [7] (aj iQK.aw iQK.bz) Tryz.func51 rfl (by kernel_rfl) ?_;cbv;refine cKi ql (λhT h1 gM fW K U H j lT l1 o1 o2 o3=>?_);have ab:=lT.trans l1;cbv;intro x h2 hx e2;have l2:Le h1 h2:=zqs e2 hx
 have w:h2 x=zcL 277 [.zI i,.slice gM v fW,.slice K m U,.slice H q j,.zU 0,.int .i32 0,.zU 0]:=zqt e2;have vN:h x=none:=ab.none hx;clear e2;cbv;refine QX (qc.mono ((ab.trans l2).t _)) (λh3 W Y l3 qt=>?_);have u:=l3 _ _ w;have ag:hT x=none:=l1.none hx;have nN:=(l1.trans l2).trans l3;have qt:=qt.sl;clear w;cbv;repeat (first|rw[av A] | (refine cy u ?_;cbv)|(refine zqr ?_;cbv))
 rw[hz];refine jE u (by show 1<=7;decide) (λh4 e4=>?_);have g4:=zqt e4;have x4:ep [277] h3 h4:=by rw[e4];exact gU u dl
 have k4:Kp [x] h3 h4:=by rw[e4];exact Kp.set io
 have g4:h4 x=zcL 277 [.zI (i+1),.slice gM v fW,.slice K m U,.slice H q j,.zU 0,.int .i32 0,.zU 0]:=g4;clear e4;have l4:Le hT h4:=nN.bf (bs:=[x]) (iu ag) k4;have al:=(o1.mono ((l2.trans l3).t _)).mono (x4.t dl);have B:=qt.mono (x4.t dl);clear x4 k4 u;cbv;repeat (first|rw[av A] | (refine cy g4 ?_;cbv)|(refine zqr ?_;cbv))
 intro nn h5 sQ e5;have T:Le h4 h5:=zqs e5 sQ
 have qn:Sl 172 eD h5 (.slice (zsA nn) 1 1) [⟨i,cs⟩]:=bh (s:=eD) (cs:=[.zI i,.slice W n Y]) (zqt e5) ⟨_,_,_,rfl,B.mono (T.t _)⟩;have g5:=T _ _ g4;have Z:=B.mono (T.t _);clear e5;cbv;repeat (first|rw[av A] | (refine cy g5 ?_;cbv)|(refine zqr ?_;cbv))
 refine(al.mono (T.t _)).app qn dl rfl dl ip (l4.trans T) (λV b6 c6 h6 Sr l6 t6 k6 u6=>?_);have g6:h6 x=_:=k6 _ _ g5 (.inr (.inr (λc fr e=>by cases e)));have ak:=Z.mono (t6 _ dl);clear k6 t6 qn g5 g4;cbv;repeat (first|rw[av A] | (refine cy g6 ?_;cbv)|(refine zqr ?_;cbv))
 refine jE g6 (by show 2<=7;decide) (λR e7=>?_);have y:=zqt e7;have x7:ep [277] h6 R:=by rw[e7];exact gU g6 dl
 have k7:Kp [x] h6 R:=by rw[e7];exact Kp.set io
 clear e7;have l7:Le hT R:=l6.bf (bs:=[x]) (iu ag) k7;have q7:TC h R x 0 0 0 b6 V c6 K m U H q j ⟨i+1,p++[⟨i,cs⟩],bs,ts⟩:=⟨y,(u6.mono (x7.t dl)).base lT,o2.mono (l7.t _),o3.mono (l7.t _),vN,lT.trans l7⟩;have z:=ak.mono (x7.t dl);clear y x7 k7 u6 g6 al ak Z B l4 T l6;have y:=q7.out;have L:(if 4<=p.length+1 then dp ⟨i+1,p++[⟨i,cs⟩],bs,ts⟩else⟨i+1,p++[⟨i,cs⟩],bs,ts⟩)=L':=L;have f3:A .aQ .geq (A .nat V) 4=decide (4<=p.length+1):=by rw[cF A,hA.nat];exact decide_eq_decide.2 (by show(V:Int)>=4↔_;omega)
 obtain⟨C,P⟩:∃C:(Int×Int×Int×(Option Addr×Nat×Nat)×(Option Addr×Nat×Nat)×(Option Addr×Nat×Nat))->ad->Prop,∀g h',C g h'=(TC h h' x g.1 g.2.1 g.2.2.1 g.2.2.2.1.1 g.2.2.2.1.2.1 g.2.2.2.1.2.2 g.2.2.2.2.1.1 g.2.2.2.2.1.2.1 g.2.2.2.2.1.2.2 g.2.2.2.2.2.1 g.2.2.2.2.2.2.1 g.2.2.2.2.2.2.2 L'/\Sl 161 bD h' (.slice W n Y) cs):=⟨_,λ_ _=>rfl⟩;have Bw:∀h' g1 w u,TC h h' x 1 0 0 g1.1 g1.2.1 g1.2.2 w.1 w.2.1 w.2.2 u.1 u.2.1 u.2.2 L'->Sl 161 bD h' (.slice W n Y) cs->C (1,0,0,g1,w,u) h':=λh' g1 w u a b=>by rw[P];exact⟨a,b⟩
 cbv;refine kK.go (G:=(Int×Int×Int×(Option Addr×Nat×Nat)×(Option Addr×Nat×Nat)×(Option Addr×Nat×Nat))) (λ_=>[]) (λ_=>[(2,[.zI i,.slice F v M,.slice I m N,.slice J q O]),(4,[.zI 0,.zN,.zN,.zN]),(5,[.zI 0,.zN]),(7,[.zI i,.slice W n Y])]) C ?_ ?_
 .cbv;repeat (first|rw[av A] | (refine cy y ?_;cbv)|(refine zqr ?_;cbv))
  rw[f3];by_cases EH:4<=p.length+1
  .rw[if_pos EH]at L;rw[kS EH];cbv;repeat (first|rw[av A] | (refine cy y ?_;cbv)|(refine zqr ?_;cbv))
   refine dQF (f:=127) (fl:=[.zP x]) (cl:=[]) y (o:=4) rfl rfl (λD e8=>?_);have r:=q7.put 0 1 0;have hb:D=bO R x (.cells #[.zI (i+1),.slice b6 V c6,.slice K m U,.slice H q j,.zU 0,.int .i32 1,.zU 0] 277 (0,0)):=e8;have r:TC h D x 0 1 0 b6 V c6 K m U H q j ⟨i+1,p++[⟨i,cs⟩],bs,ts⟩:=by rw[hb];exact r
   have Q:Sl 161 bD D (.slice W n Y) cs:=z.mono (by rw[hb];exact(gU y (ex:=[277]) dl).t dl);clear e8 hb f3;refine Tw r (λt ht=>?_) (by rw[kXy,kXm];omega) ip ip (λh9 K me U H rH j t9 q9=>⟨rfl,_,q9.out,rfl,rfl,?_⟩)
   .rcases kJj.1 ht with ht|ht
    .exact hB.op t ht
    rw[kXK.1 ht];exact HN
   have Am:TC h (bO h9 x (.cells #[.zI (i+1),.zN,.slice K me U,.slice H rH j,.zU 1,.int .i32 0,.zU 0] 277 (0,0))) x 1 0 0 none 0 0 K me U H rH j (dp ⟨i+1,p++[⟨i,cs⟩],bs,ts⟩):=q9.put 1 0 0;rw[L]at Am;have ao:Sl 161 bD (bO h9 x (.cells #[.zI (i+1),.zN,.slice K me U,.slice H rH j,.zU 1,.int .i32 0,.zU 0] 277 (0,0))) (.slice W n Y) cs:=(Q.mono (t9 (161::bD.tys) dl dl dl)).mono ((gU q9.out (ex:=[277]) dl).t dl);have S:=Bw _ (none,0,0) (K,me,U) (H,rH,j) Am ao;clear P Bw hk;cbv;refine⟨_,⟨?_,?_,?_⟩,S⟩<;>cbv
  rw[if_neg EH]at L;rw[kQW EH];have S:C (0,0,0,(b6,V,c6),(K,m,U),(H,q,j)) R:=by rw[P,<-L];exact⟨q7,z⟩
  clear P hk f3;cbv;refine⟨_,⟨?_,?_,?_⟩,S⟩<;>cbv
 intro g D S;rw[P]at S;cbv;obtain⟨d,l,s,⟨b4,n4,c4⟩,⟨b5,n5,c5⟩,⟨E,n6,X⟩⟩:=g;obtain⟨r,Q⟩:=S;have r:TC h D x d l s b4 n4 c4 b5 n5 c5 E n6 X L':=r;have g8:=r.out;have an:vr D b4 n4 c4 b5 n5 c5 E n6 X L':=⟨r.op.sl,r.bk.sl,r.tx.sl⟩;have aq:=r.le;clear P Bw L q7 z o1 o2 o3 ql qc;obtain⟨Pu,RW,yP,az⟩:=L';have g8:D x=zcL 277 [.zI Pu,.slice b4 n4 c4,.slice b5 n5 c5,.slice E n6 X,.zU d,.int .i32 l,.zU s]:=g8;repeat (first|rw[av A] | (refine cy g8 ?_;cbv)|(refine zqr ?_;cbv))
 refine aXP an (λh9 gM fW K U H j l9 q9=>?_);cbv;repeat (first|rw[av A] | (refine cy (l9 _ _ g8) ?_;cbv)|(refine zqr ?_;cbv))
 refine QX (Q.mono (l9.t _)) (λiE ax aw gD ar=>?_);have:=hk iE gM n4 fW K n5 U H n6 j ax aw (aq.trans (l9.trans gD)) (q9.le gD) ar.sl;clear hk;cbv;exact this
def mZ(L:eO):eO×Int:=if L.oO.length=0 then(L,2)else(dp L,0)
def cV(bs:List nV):Int×Bs×Int:=match bs.getLast? with
 |none=>(0,List.replicate 32 0,2)
 |some b=>(b.n,eo b,0)
theorem jz(bs:List nV):(cV bs).2.1.length=32:=by
 unfold cV;split
 .rfl
 exact gu _
theorem Tu{N:Int}{B e C:Option Addr}{L D t M E:Nat}{bs:List nV}(q:Sl 224 ek h (.slice e n t) bs)(Q:bs.length<=2^20)
 (c:∀h' g,Le h h'->hl g=aT (cV bs).2.1->k (.tuple #[.agg (.zI (cV bs).1::hl g).toArray,.zI (cV bs).2.2]) h'):
 Ct 79 [.agg #[.zI N,.slice B L D,.slice e n t,.slice C M E]] h k:=by
 obtain⟨A,f⟩:=Ar.ex;have P:n=bs.length:=q.len;have u:A .aQ .eql (A .nat n) 0=decide (n=0):=by rw[au A,f.nat];exact decide_eq_decide.2 (by show(n:Int)=0↔_;omega)
 obtain⟨z,y⟩:∃z,z=A .aX .sub .i64 (A .nat n) 1:=⟨_,rfl⟩;have Y:0<n->bg z (n-1):=λh=>⟨by
  rw[y,f.aX,f.nat];show IntKind.i64.wrap ((n:Int)-1)=_;rw[IntWalk.i64_in _ ip];omega⟩
 refine kh iQq A Tryz.func79 ?_;cbv;rw[u];by_cases v:n=0
 .have l:cV bs=(0,List.replicate 32 0,2):=by have:bs=[]:=kZh ip;subst this;rfl
  rw[l]at c;rw[kS v];have:=c h (λ_=>0) (Le.refl _) rfl;clear c;cbv;exact this
 obtain⟨x,hx⟩:=cK bs (n-1);have l:cV bs=(x.n,eo x,0):=by unfold cV;rw[kJy,show bs.length-1=n-1 from by omega,hx]
 rw[l]at c;have Y:=Y ip;have ix:=Y.ix (len:=n) ip;have i:e.isSome=true:=q.bu;rw[kQW v];clear u l;cbv;rw[<-y];repeat (first|(refine⟨⟨i,ix⟩,?_⟩;cbv)|(rw[<-y];cbv))
 obtain⟨s,d,xr,j⟩:=x;refine q.cI hx Y.eq (o:=0) (m:=1) dl (λcs a=>?_);obtain⟨a,p,r⟩:=a;have a:cs=.zI s::(aT d++(aT xr++[.zI j])):=a;subst a;cbv;repeat (first|(refine⟨⟨i,ix⟩,?_⟩;cbv)|(rw[<-y];cbv))
 refine q.load hx Y.eq (λcs a=>?_);obtain⟨a,p,r⟩:=a;have p:d.length=32:=p;have r:xr.length=32:=r;obtain⟨G,V⟩:=tJ (b:=d) p;obtain⟨H,I⟩:=tJ (b:=xr) r;have a:cs=Aw s G H j:=by rw[a,nF,V,I]
 subst a;cbv;refine bJO V I p r (λJ F w K=>?_);have:=c J F w K;have O:=q.mono (w.t _);clear c;cbv;refine O.cI hx Y.eq (o:=0) (m:=1) dl (λcs a=>?_);obtain⟨a,p,r⟩:=a;have a:cs=.zI s::(aT d++(aT xr++[.zI j])):=a;subst a;cbv;repeat (first|(refine zqr ?_;cbv)|(refine⟨⟨i,ix⟩,?_⟩;cbv)|(rw[<-y];cbv))
 exact this
theorem Tv{n:Int}{e g:Option Addr}{b l:Nat}{p:List mQ}{bs:List nV}{ts:List (List mQ)}(L:vr h d a i e b l g c m ⟨n,p,bs,ts⟩)(C:xK ⟨n,p,bs,ts⟩){E:eO×Int}(q:mZ ⟨n,p,bs,ts⟩=E)
 (r:∀h' d a i e b l g c m,Le h h'->vr h' d a i e b l g c m E.1->k (.tuple #[.agg #[.zI E.1.next,.slice d a i,.slice e b l,.slice g c m],.zI E.2]) h'):
 Ct 78 [.agg #[.zI n,.slice d a i,.slice e b l,.slice g c m]] h k:=by
 obtain⟨A,hA⟩:=Ar.ex;have fG:a=p.length:=L.oO.len;have lG:p.length<=2^16:=C.n1;have gQ:bs.length<=2^16:=C.n2;have yL:ts.length<=2^16:=C.n3;have f1:A .aQ .eql (A .nat a) 0=decide (p.length=0):=by rw[au A,hA.nat];exact decide_eq_decide.2 (by show(a:Int)=0↔_;omega)
 have q:(if p.length=0 then((⟨n,p,bs,ts⟩,2):eO×Int)else(dp ⟨n,p,bs,ts⟩,0))=E:=q;refine kh iQr A Tryz.func78 ?_;cbv;rw[f1];by_cases D:p.length=0
 .rw[if_pos D]at q;subst q;rw[kS D];cbv;refine aXP L (λw M W K U H j l9 y=>?_);have:=r w M a W K b U H c j l9 y;clear r;cbv;exact this
 rw[if_neg D]at q;rw[kQW D];cbv;refine cKi L (λhT h1 M W K U H j T Q o1 o2 V=>?_);have I:=T.trans Q;cbv;intro x B hx G;have S:Le h1 B:=zqs G hx
 have z:B x=zcL 277 [.zI n,.slice M a W,.slice K b U,.slice H c j,.zU 0,.int .i32 0,.zU 0]:=zqt G;have vN:h x=none:=I.none hx;clear G;have X:=Q.trans S;have Y:TC h B x 0 0 0 M a W K b U H c j ⟨n,p,bs,ts⟩:=⟨z,(o1.mono (S.t _)).base T,o2.mono (X.t _),V.mono (X.t _),vN,T.trans X⟩;cbv;repeat (first|rw[av A] | (refine cy z ?_;cbv)|(refine zqr ?_;cbv))
 refine dQF (f:=127) (fl:=[.zP x]) (cl:=[]) z (o:=4) rfl rfl (λO N=>?_);have F:=Y.put 0 1 0;have P:O=bO B x (.cells #[.zI n,.slice M a W,.slice K b U,.slice H c j,.zU 0,.int .i32 1,.zU 0] 277 (0,0)):=N;have F:TC h O x 0 1 0 M a W K b U H c j ⟨n,p,bs,ts⟩:=by rw[P];exact F
 clear N P;refine Tw F (λt ht=>C.op t ht) ip ip ip (λw K s U H u j t9 y=>⟨rfl,_,y.out,rfl,rfl,?_⟩);have v:TC h (bO w x (.cells #[.zI n,.zN,.slice K s U,.slice H u j,.zU 1,.int .i32 0,.zU 0] 277 (0,0))) x 1 0 0 none 0 0 K s U H u j (dp ⟨n,p,bs,ts⟩):=y.put 1 0 0;have Ns:(bO w x (.cells #[.zI n,.zN,.slice K s U,.slice H u j,.zU 1,.int .i32 0,.zU 0] 277 (0,0))) x=_:=ae;have J:=v.le;have R:vr (bO w x (.cells #[.zI n,.zN,.slice K s U,.slice H u j,.zU 1,.int .i32 0,.zU 0] 277 (0,0))) none 0 0 K s U H u j ⟨n,[],bs++[jQ p bs],ts++[p]⟩:=⟨v.op.sl,v.bk.sl,v.tx.sl⟩;have ab:E.1.next=n:=by rw[<-q];rfl
 have Vl:E.1=dp ⟨n,p,bs,ts⟩:=by rw[<-q]
 have Z:E.2=0:=by rw[<-q]
 rw[Vl,Z]at r;clear F y v Y o1 o2 V z t9;have r:∀h' d a i e b l g c m,Le h h'->vr h' d a i e b l g c m ⟨n,[],bs++[jQ p bs],ts++[p]⟩->k (.tuple #[.agg #[.zI n,.slice d a i,.slice e b l,.slice g c m],.zI 0]) h':=r;cbv;repeat (first|rw[av A] | (refine cy Ns ?_;cbv)|(refine zqr ?_;cbv))
 refine aXP R (λoV M W K U H j An vL=>?_);have:=r oV M 0 W K s U H u j (J.trans An) vL;clear r;cbv;exact this
end Go.S
