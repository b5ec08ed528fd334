import Derived.Test.YthnbpiejemlbeaaGreatBE
import Derived.Test.YthnbpiejemlbeaaGreatBG
set_option linter.all false
set_option maxRecDepth 100000
set_option maxHeartbeats 8000000
namespace Go.S
open Go.Sx Go.Proofs
variable {A:Ar}{id:Int}{a bytes c cap e f i m n p:Nat}{o1 o2:Option (Option Addr×Nat)}{b d:Option Addr}{k:Value->ad->Prop}{h h' h0:ad}
structure mu where
 id:Int
 JQ:List cV
structure fA where
 next:Int
 oR:List mu
 dJ:List sf
 Es:List (List mu)
def dY:Sh mu where
 n:=2
 R h cs t:=∃b n c,cs=[.int .i64 t.id,.slice b n c]/\Sl 161 bz h (.slice b n c) t.JQ
 len:=by rintro h cs x ⟨_,_,_,rfl,-⟩;rfl
 one:=by rintro h cs x ⟨_,_,_,rfl,-⟩;rfl
 tys:=[161,45]
 mono:=by rintro h h' cs x hl ⟨b,n,c,rfl,q⟩;exact⟨b,n,c,rfl,q.mono (hl.sub)⟩
abbrev gF:Sh (List mu):=vA 172 dY
abbrev km:List Nat:=[172,47,224,161,45]
structure vd(h:ad)(b1:Option Addr)(n1 c1:Nat)(b2:Option Addr)(n2 c2:Nat)(b3:Option Addr)(n3 c3:Nat)(L:fA):Prop where
 oR:Sl 172 dY h (.slice b1 n1 c1) L.oR
 dJ:Sl 224 dU h (.slice b2 n2 c2) L.dJ
 Es:Sl 47 gF h (.slice b3 n3 c3) L.Es
theorem vd.ls{a c:Option Addr}{d g:Nat}{L:fA}(q:vd h b n d a g e c i f L)(l:cO km h h'):vd h' b n d a g e c i f L:=
 ⟨q.oR.mono (l.sub),q.dJ.mono (l.sub),q.Es.mono (l.sub)⟩
theorem vd.le{a c:Option Addr}{d g:Nat}{L:fA}(q:vd h b n d a g e c i f L)(l:Le h h'):vd h' b n d a g e c i f L:=q.ls (l.t _)
def uM:mu:=⟨0,[]⟩
theorem Rj{xs:List sf}{len:Nat}(q:Sl 224 dU h (.slice b len cap) xs):
 Ct 118 [.slice b len cap] h (λv h'=>Le h h'/\∃d i,v=.slice d len i/\bt 224 dU h h' (.slice d len i) xs):=by
 refine cg aKW Tryz.func118 λA k=>?_;cbv;refine ba (λa=>?_) (λa=>?_)
 .rw[k.Cc]at a;cbv;have m:b=none:=by cases b<;>simp at a |-
  subst m;have hl:len=0:=by
   rcases jKj len with e|e
   .exact e
   have:=q.bp e;cases this
  have:=q.len;have hx:xs=[]:=kh (by omega);subst hx hl;exact⟨Le.refl _,none,0,rfl,bt.nil⟩
 cbv;intro s j o w;have l:Le h j:=by rw[w];exact Le.set o
 cbv;refine dt (q.mono (l.t _)) (by simp[dU]) rfl (by decide) (λn=>?_) (λt c r e1 p f g=>?_)
 .cbv;have:=q.len;have hx:xs=[]:=kh (by omega);subst hx n;exact⟨l,_,_,rfl,bt.nil⟩
 cbv;exact⟨l.trans f,_,_,rfl,g.buf (l.none e1) q.len⟩
theorem cZz{J:List cV}(q:Sl 161 bz h (.slice b n c) J)
 (i:∀h' g f,Le h h'->Sl 161 bz h' (.slice g n f) J->k (.agg #[.int .i64 id,.slice g n f]) h'):
 Ct 239 [.agg #[.int .i64 id,.slice b n c]] h k:=by
 refine cg eXz Tryz.func239 λA m=>?_;cbv;refine RL q (λe a d l j=>?_);have:=i e a d l j;cbv;exact this
theorem bQo{xs:List mu}(q:Sl 172 dY h (.slice b n c) xs)(P:∀h' m c',Le h h'->Sl 172 dY h' (.slice m n c') xs->k (.slice m n c') h'):
 Ct 238 [.slice b n c,.func (.func 239) #[] #[]] h k:=by
 have l:=q.len;obtain⟨kW,gZ⟩:=q.bound;have uY:∀h,dY.R h [.int .i64 0,.slice none 0 0] uM:=λh=>⟨_,_,_,rfl,Sl.nil⟩;refine cg aKK Tryz.func238 λA O=>?_;cbv;refine jy (s:=dY) (x:=uM) uY (by omega) (by decide) (λf K C V o1=>?_);obtain⟨J,D⟩:∃J:Nat->Int->ad->Prop,∀w z h',J w z h'=(∃i,aZ z i/\w=n-i/\i<=n/\Le h h'/\cZ 172 dY h' f n (xs.take i++List.replicate (n-i) uM)):=⟨_,λ_ _ _=>rfl⟩;have L:J n 0 K:=by rw[D];exact⟨0,⟨rfl⟩,rfl,by omega,V,o1⟩
 cbv;refine aX.go (G:=Int) (λz=>[(13,.v (.int .i64 z))]) (λ_=>[]) (λw z h'=>J w z h') n 0 (by constructor<;>cbv) L ?_
 intro w z M I;rw[D]at I;cbv;obtain⟨i,d,hw,hi,j,o2⟩:=I;have fl:A .aN .lss z (A .nat n)=decide (i<n):=by rw[aR A,d.eq,O.nat];exact decide_eq_decide.2 (by show(i:Int)<(n:Int)↔_;omega)
 rw[fl];by_cases e:i<n
 .obtain⟨x,hx⟩:=cB xs i;have ix:=d.ix e;have U:n-(i+1)<w:=by omega
  have Y:=d.succ (A:=A);have rF:=pt (x0:=uM) hx e l;have Q:i<(xs.take i++List.replicate (n-i) (uM:mu)).length:=by rw[cy,yl,eA];omega
  have X:∀h',Le h h'->cZ 172 dY h' f n (xs.take (i+1)++List.replicate (n-(i+1)) uM)->J (n-(i+1)) (A .aT .add .i64 z 1) h':=λh' S o'=>by
   rw[D];exact⟨i+1,Y,rfl,by omega,S,o'⟩
  rw[ak e];clear fl D L;generalize xs.take i++List.replicate (n-i) uM=ys at *;generalize xs.take (i+1)++List.replicate (n-(i+1)) uM=zs at *;cbv;refine⟨⟨q.bp,ix⟩,?_⟩;cbv;refine(q.mono (j.t _)).load hx d.eq (λcs v=>?_);obtain⟨b1,r,c1,rfl,u⟩:=v;have hR:∀h' g H,Sl 161 bz h' (.slice g r H) x.JQ->dY.R h' [.int .i64 x.id,.slice g r H] x:=λh' g H a=>⟨_,_,_,rfl,a⟩;generalize x.id=xn at *;cbv;refine cZz u (λN y B p Z=>?_);have T:=hR N y B Z;cbv;refine⟨⟨rfl,ix⟩,?_⟩;cbv;refine(o2.mono (p.t _)).setAt (by decide) (i:=i) Q d.eq rfl T (λo R t4 t=>?_);rw[rF]at t;have W:Le h o:=(j.trans p).aV (bs:=[f]) (by simpa using C) R;have:=X o W t;clear X;cbv;refine⟨n-(i+1),A .aT .add .i64 z 1,U,by constructor<;>cbv,this⟩
 have E:i=n:=by omega
 have F:xs.take i++List.replicate (n-i) uM=xs:=by rw[E,GD,ie (by omega)];simp
 rw[F]at o2;have:=P M (zsA f) n j (o2.sl l);rw[bn e];cbv;exact this
theorem Ry{xs:List mu}(q:Sl 172 dY h (.slice b n c) xs)(e:∀h' a c',Le h h'->Sl 172 dY h' (.slice a n c') xs->k (.slice a n c') h'):
 Ct 117 [.slice b n c] h k:=by
 refine cg aKX Tryz.func117 λA g=>?_;cbv;refine bQo q (λd b c l f=>?_);have:=e d b c l f;cbv;exact this
theorem bQq{xs:List (List mu)}(q:Sl 47 gF h (.slice b n c) xs)(M:∀h' f c',Le h h'->Sl 47 gF h' (.slice f n c') xs->k (.slice f n c') h'):
 Ct 119 [.slice b n c,.func (.func 117) #[] #[]] h k:=by
 have l:=q.len;obtain⟨kW,gZ⟩:=q.bound;have Y:∀h,gF.R h [.slice none 0 0] []:=λh=>⟨_,rfl,Sl.nil⟩;refine cg aKV Tryz.func119 λA K=>?_;cbv;refine jy (s:=gF) (x:=[]) Y (by omega) (by decide) (λe E C Q o1=>?_);obtain⟨J,D⟩:∃J:Nat->Int->ad->Prop,∀w z h',J w z h'=(∃i,aZ z i/\w=n-i/\i<=n/\Le h h'/\cZ 47 gF h' e n (xs.take i++List.replicate (n-i) [])):=⟨_,λ_ _ _=>rfl⟩;have L:J n 0 E:=by rw[D];exact⟨0,⟨rfl⟩,rfl,by omega,Q,o1⟩
 cbv;refine aX.go (G:=Int) (λz=>[(13,.v (.int .i64 z))]) (λ_=>[]) (λw z h'=>J w z h') n 0 (by constructor<;>cbv) L ?_
 intro w z H I;rw[D]at I;cbv;obtain⟨i,a,hw,hi,g,o2⟩:=I;have fl:A .aN .lss z (A .nat n)=decide (i<n):=by rw[aR A,a.eq,K.nat];exact decide_eq_decide.2 (by show(i:Int)<(n:Int)↔_;omega)
 rw[fl];by_cases d:i<n
 .obtain⟨x,hx⟩:=cB xs i;have ix:=a.ix d;have U:n-(i+1)<w:=by omega
  have S:=a.succ (A:=A);have V:=pt (x0:=[]) hx d l;have N:i<(xs.take i++List.replicate (n-i) ([]:(List mu))).length:=by rw[cy,yl,eA];omega
  have X:∀h',Le h h'->cZ 47 gF h' e n (xs.take (i+1)++List.replicate (n-(i+1)) [])->J (n-(i+1)) (A .aT .add .i64 z 1) h':=λh' P o'=>by
   rw[D];exact⟨i+1,S,rfl,by omega,P,o'⟩
  rw[ak d];clear fl D L;generalize xs.take i++List.replicate (n-i) []=ys at *;generalize xs.take (i+1)++List.replicate (n-(i+1)) []=zs at *;cbv;refine⟨⟨q.bp,ix⟩,?_⟩;cbv;refine(q.mono (g.t _)).load hx a.eq (λcs y=>?_);obtain⟨v,rfl,p⟩:=y;obtain⟨r,u,t,rfl⟩:∃r u t,v=.slice r u t:=by obtain⟨f,cap,e1,-⟩:=p.out;exact⟨_,_,_,e1⟩
  cbv;refine Ry p (λh3 W Z m T=>?_);cbv;refine⟨⟨rfl,ix⟩,?_⟩;cbv;refine(o2.mono (m.t _)).setAt (by decide) (i:=i) N a.eq rfl ⟨_,rfl,T⟩ (λj O t4 o=>?_);rw[V]at o;have R:Le h j:=(g.trans m).aV (bs:=[e]) (by simpa using C) O;have:=X j R o;clear X;cbv;refine⟨n-(i+1),A .aT .add .i64 z 1,U,by constructor<;>cbv,this⟩
 have B:i=n:=by omega
 have F:xs.take i++List.replicate (n-i) []=xs:=by rw[B,GD,ie (by omega)];simp
 rw[F]at o2;have:=M H (zsA e) n g (o2.sl l);rw[bn d];cbv;exact this
theorem bQj{x:Int}{c e:Option Addr}{j b:Nat}{o:List mu}{bs:List sf}{ts:List (List mu)}(q:vd h c n i d a j e b m ⟨x,o,bs,ts⟩)
 (D:∀h' E H f g s r,Le h h'->vd h' E n H f a g s b r ⟨x,o,bs,ts⟩->k (.agg #[.int .i64 x,.slice E n H,.slice f a g,.slice s b r]) h'):
 Ct 48 [.agg #[.int .i64 x,.slice c n i,.slice d a j,.slice e b m]] h k:=by
 refine cg fXd Tryz.func48 λA L=>?_;cbv;refine Ry q.oR (λJ w z t F=>?_);cbv;refine(Rj (q.dJ.mono (t.t _))).mono (λv K hR=>?_);obtain⟨u,f,g,rfl,G⟩:=hR;have p:=t.trans u;cbv;refine bQq (q.Es.mono (p.t _)) (λC y B l I=>?_);have:=D C w z f g y B (p.trans l) ⟨F.mono ((u.trans l).t _),G.sl.mono (l.t _),I⟩;cbv;exact this
theorem PC{xs:List cV}(q:Sl 161 bz h (.slice b n c) xs)
 (Q:∀h' m c',Le h h'->bt 161 bz h h' (.slice m n c') xs->k (.agg #[.int .i64 id,.slice m n c']) h'):
 Ct 125 [.agg #[.int .i64 id,.slice b n c]] h k:=by
 have l:=q.len;obtain⟨kW,gZ⟩:=q.bound;have uY:∀h,bz.R h [.string ⟨#[]⟩,.int .i64 0,.slice none 0 0] uU:=λh=>⟨_,_,_,rfl,Sl.nil⟩;refine cg eJs Tryz.func125 λA P=>?_;cbv;refine jy (s:=bz) (x:=uU) uY (by omega) (by decide) (λf M C W o1=>?_);obtain⟨J,D⟩:∃J:Nat->Int->ad->Prop,∀w z h',J w z h'=(∃i,aZ z i/\w=n-i/\i<=n/\Le h h'/\cZ 161 bz h' f n (xs.take i++List.replicate (n-i) uU)):=⟨_,λ_ _ _=>rfl⟩;have L:J n 0 M:=by rw[D];exact⟨0,⟨rfl⟩,rfl,by omega,W,o1⟩
 cbv;refine aX.go (G:=Int) (λz=>[(13,.v (.int .i64 z))]) (λ_=>[(1,[.int .i64 id,.slice b n c]),(2,[.int .i64 0,.slice none 0 0])]) (λw z h'=>J w z h') n 0 (by constructor<;>cbv) L ?_
 intro w z N I;rw[D]at I;cbv;obtain⟨i,d,hw,hi,j,o2⟩:=I;have fl:A .aN .lss z (A .nat n)=decide (i<n):=by rw[aR A,d.eq,P.nat];exact decide_eq_decide.2 (by show(i:Int)<(n:Int)↔_;omega)
 rw[fl];by_cases e:i<n
 .obtain⟨x,hx⟩:=cB xs i;have ix:=d.ix e;have U:n-(i+1)<w:=by omega
  have Z:=d.succ (A:=A);have rF:=pt (x0:=uU) hx e l;have R:i<(xs.take i++List.replicate (n-i) (uU:cV)).length:=by rw[cy,yl,eA];omega
  have X:∀h',Le h h'->cZ 161 bz h' f n (xs.take (i+1)++List.replicate (n-(i+1)) uU)->J (n-(i+1)) (A .aT .add .i64 z 1) h':=λh' V o'=>by
   rw[D];exact⟨i+1,Z,rfl,by omega,V,o'⟩
  rw[ak e];clear fl D L;generalize xs.take i++List.replicate (n-i) uU=ys at *;generalize xs.take (i+1)++List.replicate (n-(i+1)) uU=zs at *;cbv;refine⟨⟨q.bp,ix⟩,?_⟩;cbv;refine(q.mono (j.t _)).load hx d.eq (λcs y=>?_);obtain⟨b1,r,c1,rfl,u⟩:=y;have hR:∀h' g H,Sl 45 bA h' (.slice g r H) x.row->bz.R h' [.string x.table,.int .i64 x.op,.slice g r H] x:=λh' g H a=>⟨_,_,_,rfl,a⟩;generalize x.table=xn at *;generalize x.op=xk at *;cbv;refine(CA u).mono (λv O T=>?_);obtain⟨p,B,E,rfl,q3⟩:=T;have T:=hR O B E q3.sl;cbv;refine⟨⟨rfl,ix⟩,?_⟩;cbv;refine(o2.mono (p.t _)).setAt (by decide) (i:=i) R d.eq rfl T (λo S t4 t=>?_);rw[rF]at t;have Y:Le h o:=(j.trans p).aV (bs:=[f]) (by simpa using C) S;have:=X o Y t;clear X;cbv;refine⟨n-(i+1),A .aT .add .i64 z 1,U,by constructor<;>cbv,this⟩
 have K:i=n:=by omega
 have F:xs.take i++List.replicate (n-i) uU=xs:=by rw[K,GD,ie (by omega)];simp
 rw[F]at o2;have:=Q N (zsA f) n j (o2.buf C l);rw[bn e];cbv;exact this
theorem RA{xs:List mu}(q:Sl 172 dY h (.slice b n c) xs)
 (P:∀h' m c',Le h h'->bt 172 dY h h' (.slice m n c') xs->k (.slice m n c') h'):
 Ct 242 [.slice b n c] h k:=by
 have l:=q.len;obtain⟨kW,gZ⟩:=q.bound;have uY:∀h,dY.R h [.int .i64 0,.slice none 0 0] uM:=λh=>⟨_,_,_,rfl,Sl.nil⟩;refine cg eXw Tryz.func242 λA O=>?_;cbv;refine jy (s:=dY) (x:=uM) uY (by omega) (by decide) (λf K C V o1=>?_);obtain⟨J,D⟩:∃J:Nat->Int->ad->Prop,∀w z h',J w z h'=(∃i,aZ z i/\w=n-i/\i<=n/\Le h h'/\cZ 172 dY h' f n (xs.take i++List.replicate (n-i) uM)):=⟨_,λ_ _ _=>rfl⟩;have L:J n 0 K:=by rw[D];exact⟨0,⟨rfl⟩,rfl,by omega,V,o1⟩
 cbv;refine aX.go (G:=Int) (λz=>[(11,.v (.int .i64 z))]) (λ_=>[]) (λw z h'=>J w z h') n 0 (by constructor<;>cbv) L ?_
 intro w z M I;rw[D]at I;cbv;obtain⟨i,d,hw,hi,j,o2⟩:=I;have fl:A .aN .lss z (A .nat n)=decide (i<n):=by rw[aR A,d.eq,O.nat];exact decide_eq_decide.2 (by show(i:Int)<(n:Int)↔_;omega)
 rw[fl];by_cases e:i<n
 .obtain⟨x,hx⟩:=cB xs i;have ix:=d.ix e;have U:n-(i+1)<w:=by omega
  have Y:=d.succ (A:=A);have rF:=pt (x0:=uM) hx e l;have Q:i<(xs.take i++List.replicate (n-i) (uM:mu)).length:=by rw[cy,yl,eA];omega
  have X:∀h',Le h h'->cZ 172 dY h' f n (xs.take (i+1)++List.replicate (n-(i+1)) uM)->J (n-(i+1)) (A .aT .add .i64 z 1) h':=λh' S o'=>by
   rw[D];exact⟨i+1,Y,rfl,by omega,S,o'⟩
  rw[ak e];clear fl D L;generalize xs.take i++List.replicate (n-i) uM=ys at *;generalize xs.take (i+1)++List.replicate (n-(i+1)) uM=zs at *;cbv;refine⟨⟨q.bp,ix⟩,?_⟩;cbv;refine(q.mono (j.t _)).load hx d.eq (λcs v=>?_);obtain⟨b1,r,c1,rfl,u⟩:=v;have hR:∀h' g H,Sl 161 bz h' (.slice g r H) x.JQ->dY.R h' [.int .i64 x.id,.slice g r H] x:=λh' g H a=>⟨_,_,_,rfl,a⟩;generalize x.id=xn at *;cbv;refine PC u (λN y B p Z=>?_);have T:=hR N y B Z.sl;cbv;refine⟨⟨rfl,ix⟩,?_⟩;cbv;refine(o2.mono (p.t _)).setAt (by decide) (i:=i) Q d.eq rfl T (λo R t4 t=>?_);rw[rF]at t;have W:Le h o:=(j.trans p).aV (bs:=[f]) (by simpa using C) R;have:=X o W t;clear X;cbv;refine⟨n-(i+1),A .aT .add .i64 z 1,U,by constructor<;>cbv,this⟩
 have E:i=n:=by omega
 have F:xs.take i++List.replicate (n-i) uM=xs:=by rw[E,GD,ie (by omega)];simp
 rw[F]at o2;have:=P M (zsA f) n j (o2.buf C l);rw[bn e];cbv;exact this
theorem bQC{f:FuncId}{args:List Value}{P:Value->ad->Prop}(l:Le h0 h)(c:Ct f args h0 (λv h'=>Le h0 h'/\P v h'))
 (b:∀v Q h',P v Q->Le h0 Q->Le Q h'->Le h h'->Fr h0 h Q h'->k v h'):Ct f args h k:=
 Gt.cXw l c (λv x h' hR a fr=>b v x h' hR.2 hR.1 a (fr.le l hR.1 a) fr)
theorem _root_.Go.Sx.Fr.lt{T K:ad}(fr:Fr T h K h')(l:Le T h)(f:Le K h'){tys:List Nat}(t:cO tys T K):cO tys h h':=by
 intro b c e m d a;cases A:T b with
 |none=>exact(fr b _ A a).1
 |some o=>have:=l _ _ A;rw[a]at this;cases this;exact f _ _ (t _ _ _ _ d A)
theorem _root_.Go.Sx.bt.Ro{a:Type}{s:Sh a}{T K:ad}{v:Value}{xs:List a}(q:bt e s T h v xs)(t:cO (e::s.tys) h h')(fr:Fr T h K h'):bt e s K h' v xs:=by
 rcases q.out with g| ⟨n,cap,b,d,o⟩
 .exact⟨.inl g⟩
 obtain⟨c,f,-⟩:=o.out;exact⟨.inr ⟨n,cap,b,(fr n _ d f).2,o.mono t⟩⟩
theorem _root_.Go.Sx.GG.stat{T:ad}(l:Le T h){a:Addr}{cs:List Value}{i:ad->Prop}(q:GG T a cs i){k:ad->Prop}(s:∀K h',i K->Le K h'->Fr T h K h'->k h'):GG h a cs k:=by
 obtain⟨c,e,fr,j,f,m,p,r⟩:=q.out;refine⟨c,e,fr,j,l _ _ f,m,p,λh' g=>s _ h' (r _ rfl) (λb o d=>?_) (λb o n d=>?_)⟩
 .rw[g];by_cases z:b=a.block
  .subst z;rw[ae]at d |-;exact d
  rw[ck z]at d |-;exact l _ _ d
 have z:b≠a.block:=λe=>by rw[e,f]at n;cases n
 rw[g,ck z,ck z];exact⟨d,n⟩
theorem _root_.Go.Sx.qf.stat{T:ad}(l:Le T h){n c:Int}{z:List Value}{g:Value->ad->Prop}(q:qf T e n c bytes z g)(p:∀v K h',g v K->Le K h'->Fr T h K h'->k v h'):qf h e n c bytes z k:=by
 obtain⟨i,j,m⟩:=q;refine⟨i,j,λd h' e1 f=>p _ _ h' (m d _ (l.none e1) rfl) (λb o a=>?_) (λb o r a=>?_)⟩
 .rw[f];by_cases R:b=d
  .subst R;rw[ae]at a |-;exact a
  rw[ck R]at a |-;exact l _ _ a
 have R:b≠d:=λe=>by rw[e,e1]at a;cases a
 rw[f,ck R,ck R];exact⟨a,r⟩
structure PA(h hT h':ad)(n1 n2 n:Nat)(op:List mu)(bs:List sf)(o1 o2:Option (Option Addr×Nat))(o3:Option Nat):Prop where
 l1:Le h hT
 l2:Le hT h'
 a:∀x,o1=some x->bt 172 dY hT h' (.slice x.1 n1 x.2) op
 b:∀x,o2=some x->bt 224 dU h hT (.slice x.1 n2 x.2) bs
 c:∀nb,o3=some nb->h nb=none/\cZ 47 gF hT nb n (List.replicate n [])
theorem PA.s1{T:ad}{p:List mu}{bs:List sf}{g:Option Nat}(q:PA h T h' a f n p bs none o2 g)(j:Sl 172 dY h (.slice d a e) p)
 (i:∀s b c,PA h T s a f n p bs (some (b,c)) o2 g->k (.slice b a c) s):Ct 242 [.slice d a e] h' k:=
 RA (j.mono ((q.l1.trans q.l2).t _)) (λs b c l o=>i s b c ⟨q.l1,q.l2.trans l,λx hx=>by cases hx;exact o.base q.l2,q.b,q.c⟩)
theorem PA.s2{T:ad}{p:List mu}{bs:List sf}{o:Option Nat}(q:PA h T h' f a n p bs o1 none o)(w:Sl 224 dU h (.slice d a e) bs)
 (t:∀K s b c,PA h K s f a n p bs o1 (some (b,c)) o->k (.slice b a c) s):Ct 118 [.slice d a e] h' k:=
 bQC q.l2 ((Rj (w.mono (q.l1.t _))).mono (λv h' hR=>hR)) (λv j r hR Q u l Vc=>by
  obtain⟨i,m,rfl,o2⟩:=hR;exact t j r i m ⟨q.l1.trans Q,u,λx hx=>(q.a x hx).Ro (l.t _) Vc,λx hx=>by cases hx;exact o2.base q.l1,λg C=>⟨(q.c g C).1,(q.c g C).2.mono (Q.t _)⟩⟩)
theorem PA.s3[bI A]{T:ad}{d:Nat}{o:List mu}{bs:List sf}(q:PA h T h' a d n o bs o1 o2 none)(t:n<=2^40)(p:bytes<=128)
 (r:∀j O b,PA h j O a d n o bs o1 o2 (some b)->k (.slice (zsA b) n n) O):qf h' 47 (A .nat n) (A .nat n) bytes [.slice none 0 0] k:=
 qf.stat q.l2 (jy (s:=gF) (x:=[]) (λ_=>⟨_,rfl,Sl.nil⟩) t p (k:=λv c=>∃b,v=.slice (zsA b) n n/\T b=none/\Le T c/\cZ 47 gF c b n (List.replicate n [])) (λb h' e1 e i=>⟨b,rfl,e1,e,i⟩)) (λv c m hR l f=>by
  obtain⟨b,rfl,C,K,u⟩:=hR;exact r c m b ⟨q.l1.trans K,l,λx hx=>(q.a x hx).Ro (f.lt q.l2 l (K.t _)) f,λx hx=>(q.b x hx).mono (K.t _),λQ g=>by cases g;exact⟨q.l1.none C,u⟩⟩)
theorem _root_.Go.Sx.zF.le(l:Le h h'){a:Addr}{k:List Value->Prop}(q:zF h a n k):zF h' a n k:=by obtain⟨cs,⟨b,d,c,e,fr,f,g⟩,i⟩:=q.out;exact⟨cs,⟨b,d,c,e,fr,l _ _ f,g⟩,i⟩
theorem _root_.Go.Sx.Sl.Lv{a:Type}[bI A]{s:Sh a}{len:Nat}{xs:List a}(q:Sl e s h (.slice b len cap) xs)(l:Le h h'){x:a}(hx:xs[i]? =some x){n:Int}(d:n=(i:Int))
 {k:List Value->Prop} (c:∀cs,s.R h cs x->k cs):zF h' (A.je b n s.n) s.n k:=zF.le l (q.load hx d c)
theorem cZC{y:Int}{f j:Option Addr}{d:Nat}{u:List mu}{bs:List sf}{xs:List (List mu)}(ql:vd h f a m j d p b n c ⟨y,u,bs,xs⟩)
 (hk:∀T h' E H Q r jo jn,Le h T->Le T h'->bt 172 dY T h' (.slice E a H) u->bt 224 dU h T (.slice Q d r) bs->bt 47 gF h T (.slice jo n jn) xs->
  k (.agg #[.int .i64 y,.slice E a H,.slice Q d r,.slice jo n jn]) h'):
 Ct 124 [.agg #[.int .i64 y,.slice f a m,.slice j d p,.slice b n c]] h k:=by
 obtain⟨A,hA⟩:=Ar.ex;have q:Sl 47 gF h (.slice b n c) xs:=ql.Es;have s:=q.len;obtain⟨kW,gZ⟩:=q.bound;have uY:∀h,gF.R h [.slice none 0 0] []:=λh=>⟨_,rfl,Sl.nil⟩;obtain⟨C,M⟩:∃C:(Option Addr×Nat×Option Addr×Nat×Nat)->ad->Prop,∀g h',C g h'=(∃T,PA h T h' a d n u bs (some (g.1,g.2.1)) (some (g.2.2.1,g.2.2.2.1)) (some g.2.2.2.2)):=⟨_,λ_ _=>rfl⟩;have AQ:∀T h' f m j p e,PA h T h' a d n u bs (some (f,m)) (some (j,p)) (some e)->C (f,m,j,p,e) h':=λT h' f m j p e q=>by rw[M];exact⟨T,q⟩
 have q0:PA h h h a d n u bs none none none:=⟨Le.refl _,Le.refl _,λ_ hx=>(by cases hx),λ_ hx=>(by cases hx),λ_ hx=>(by cases hx)⟩;have qo:=ql.oR;have qk:=ql.dJ;have P:n<=2^40:=by omega
 refine fU A [2] (aj eJt.aw eJt.bq) Tryz.func124 rfl (by kernel_rfl) ?_;cbv;refine ld.go (G:=Option Addr×Nat×Option Addr×Nat×Nat) (λ_=>[(3,.loc 3 0)]) (λg=>[(1,[.int .i64 y,.slice f a m,.slice j d p,.slice b n c]),(2,[.int .i64 0,.slice none 0 0,.slice none 0 0,.slice none 0 0]),(3,[.int .i64 y,.slice g.1 a g.2.1,.slice g.2.2.1 d g.2.2.2.1,.slice (some ⟨g.2.2.2.2,0,none⟩) n n])]) C ?_ ?_
 .cbv;clear M hk;repeat' first
   | (refine⟨(_,_,_,_,_),⟨?_,?_,?_⟩,AQ _ _ _ _ _ _ _ (by assumption)⟩<;>cbv)
   | (refine⟨?_,?_⟩)
   | (refine PA.s1 (by assumption) qo (λ_ _ _ _=>?_);cbv)
   | (refine PA.s2 (by assumption) qk (λ_ _ _ _ _=>?_);cbv)
   | (refine PA.s3 (by assumption) P (by decide) (λ_ _ _ _=>?_);cbv)
 intro g h1 hC;rw[M]at hC;cbv;obtain⟨E,H,Q,r,e⟩:=g;obtain⟨T,D⟩:=hC;have o1:bt 172 dY T h1 (.slice E a H) u:=D.a _ rfl;have o2:bt 224 dU h T (.slice Q d r) bs:=D.b _ rfl;obtain⟨eC,I⟩:=D.c e rfl;have B:=D.l1;have l1:=D.l2;clear D AQ M;obtain⟨J,L⟩:∃J:Nat->Int->ad->Prop,∀w z h',J w z h'=(∃i T,aZ z i/\w=n-i/\i<=n/\Le h T/\Le T h'/\bt 172 dY T h' (.slice E a H) u/\bt 224 dU h T (.slice Q d r) bs/\cZ 47 gF T e n (xs.take i++List.replicate (n-i) [])):=⟨_,λ_ _ _=>rfl⟩;have dL:J n 0 h1:=by rw[L];exact⟨0,T,⟨rfl⟩,rfl,by omega,B,l1,o1,o2,I⟩
 refine aX.go (G:=Int) (λz=>[(22,.v (.int .i64 z))]) (λ_=>[(1,[.int .i64 y,.slice f a m,.slice j d p,.slice b n c]),(2,[.int .i64 0,.slice none 0 0,.slice none 0 0,.slice none 0 0]),(3,[.int .i64 y,.slice E a H,.slice Q d r,.slice (zsA e) n n])]) (λw z h'=>J w z h') n 0 (by constructor<;>cbv) dL ?_
 intro w z h2 hI;rw[L]at hI;cbv;obtain⟨i,T,F,hw,hi,B,l2,o1,o2,I⟩:=hI;have fl:A .aN .lss z (A .nat n)=decide (i<n):=by rw[aR A,F.eq,hA.nat];exact decide_eq_decide.2 (by show(i:Int)<(n:Int)↔_;omega)
 rw[fl];by_cases N:i<n
 .obtain⟨x,hx⟩:=cB xs i;have ix:=F.ix N;have aU:n-(i+1)<w:=by omega
  have ll:=F.succ (A:=A);have rF:=pt (x0:=[]) hx N s;have iv:i<(xs.take i++List.replicate (n-i) ([]:List mu)).length:=by rw[cy,yl,eA];omega
  have bX:∀T h',Le h T->Le T h'->bt 172 dY T h' (.slice E a H) u->bt 224 dU h T (.slice Q d r) bs->cZ 47 gF T e n (xs.take (i+1)++List.replicate (n-(i+1)) [])->J (n-(i+1)) (A .aT .add .i64 z 1) h':=λT h' a1 a2 a3 a4 a5=>by
   rw[L];exact⟨i+1,T,ll,rfl,by omega,a1,a2,a3,a4,a5⟩
  rw[ak N];clear fl L dL;generalize xs.take i++List.replicate (n-i) []=ys at *;generalize xs.take (i+1)++List.replicate (n-(i+1)) []=zs at *;cbv;refine⟨⟨q.bp,ix⟩,?_⟩;cbv;refine q.Lv (B.trans l2) hx F.eq (λcs ar=>?_);obtain⟨v,rfl,qv⟩:=ar;obtain⟨vb,O,vc,rfl⟩:∃vb O vc,v=.slice vb O vc:=by obtain⟨b',cap,e1,-⟩:=qv.out;exact⟨_,_,_,e1⟩
  cbv;refine bQC l2 (RA (qv.mono (B.t _)) (k:=λv h'=>Le T h'/\∃b c,v=.slice b O c/\bt 172 dY T h' (.slice b O c) x) (λh' b c l o=>⟨l,b,c,rfl,o⟩)) (λv X h3 hR K l3 Ok U=>?_);obtain⟨b3,c3,rfl,q3⟩:=hR;have R:=o1.Ro (Ok.t _) U;have S:=o2.mono (K.t _);have Y:=I.mono (K.t _);have V:=B.trans K;cbv;repeat (refine⟨⟨_,rfl,rfl⟩,?_⟩;cbv)
  refine⟨⟨rfl,ix⟩,?_⟩;cbv;refine GG.stat l3 (Y.setAt (by decide) (i:=i) iv F.eq rfl (x:=x) ⟨_,rfl,q3.sl⟩ (k:=λh'=>Kp [e] X h'/\(∀tys,47∉tys->cO tys X h')/\cZ 47 gF h' e n (ys.set i x)) (λh' k t o=>⟨k,t,o⟩)) (λW h4 hR l4 Z=>?_);obtain⟨k4,t4,o4⟩:=hR;rw[rF]at o4;have:=bX W h4 (V.aV (bs:=[e]) (by simpa using eC) k4) l4 (R.Ro (Z.lt l3 l4 (t4 _ (by decide))) Z) (S.mono (t4 _ (by decide))) o4;clear bX;cbv;refine⟨n-(i+1),A .aT .add .i64 z 1,aU,by constructor<;>cbv,this⟩
 have fC:i=n:=by omega
 have AF:xs.take i++List.replicate (n-i) []=xs:=by rw[fC,GD,ie (by omega)];simp
 rw[AF]at I;have:=hk T h2 E H Q r (zsA e) n B l2 o1 o2 (I.buf eC s);rw[bn N];cbv;exact this
def vE(bs:List sf):Bs:=((bs.getLast?).map ef).getD (List.replicate 32 0)
def wD(op:List mu):List Bs:=op.map λt=>jN t.id t.JQ
def kI(op:List mu)(bs:List sf):sf:=⟨((bs.length+1:Nat):Int),vE bs,gP (wD op),(op.length:Int)⟩
def dq(L:fA):fA:=⟨L.next,[],L.dJ++[kI L.oR L.dJ],L.Es++[L.oR]⟩
structure Dv(t:mu):Prop where
 len:t.JQ.length<=2^30
 cKm:∀c∈t.JQ,yh c
structure RN(h0 h:ad)(p:Nat)(d l s:Int)(b1:Option Addr)(n1 c1:Nat)(b2:Option Addr)(n2 c2:Nat)(b3:Option Addr)(n3 c3:Nat)(L:fA):Prop where
 out:h p=zcL 277 [.int .i64 L.next,.slice b1 n1 c1,.slice b2 n2 c2,.slice b3 n3 c3,.int .u32 d,.int .i32 l,.int .u32 s]
 op:bt 172 dY h0 h (.slice b1 n1 c1) L.oR
 bk:bt 224 dU h0 h (.slice b2 n2 c2) L.dJ
 tx:bt 47 gF h0 h (.slice b3 n3 c3) L.Es
 new:h0 p=none
 le:Le h0 h
theorem Mq{o:List mu}{t:mu}(h:o[i]? =some t):(wD o)[i]? =some (jN t.id t.JQ):=by unfold wD;rw[kS,h];rfl
theorem Bd(b:sf):(ef b).length=32:=fL _
theorem RF{d l s:Int}{L b2 b3:Option Addr}{c1 c2 n3 c3:Nat}{I:Int}{o:List mu}{bs:List sf}{ts:List (List mu)}(q:RN h0 h p d l s L a c1 b2 n c2 b3 n3 c3 ⟨I,o,bs,ts⟩)
 (hB:∀t∈o,Dv t) (ho:o.length<=2^20) (hb:bs.length<=2^20) (ht:ts.length<=2^20) 
 (hk:∀h' fQ nS gv jo qJ jn,(∀tys,277∉tys->224∉tys->47∉tys->cO tys h h')->RN h0 h' p d l s none 0 0 fQ nS gv jo qJ jn (dq ⟨I,o,bs,ts⟩)->k (.tuple #[]) h'):
 Ct 127 [.zP p] h k:=by
 obtain⟨A,T⟩:=Ar.ex;have g0:=q.out;have fh:a=o.length:=q.op.sl.len;have eU:n=bs.length:=q.bk.sl.len;have Jt:n3=ts.length:=q.tx.sl.len;have ko:aZ (A .aT .add .i64 (A .nat n) 1) (n+1):=(aZ.nat n).succ (A:=A);obtain⟨j,Ot⟩:∃j,j=A .aT .add .i64 (A .nat n) 1:=⟨_,rfl⟩;rw[<-Ot]at ko;have ag:j=((bs.length+1:Nat):Int):=by rw[ko.eq,eU]
 have hE:dq ⟨I,o,bs,ts⟩=⟨I,[],bs++[⟨j,vE bs,gP (wD o),A .nat a⟩],ts++[o]⟩:=by rw[ag,T.nat,fh];rfl
 rw[hE]at hk;clear hE;have lO:∀ {i:Nat} {t:mu},o[i]? =some t->(wD o)[i]? =some (jN t.id t.JQ):=λh=>Mq h;have aI:(wD o).length=o.length:=by unfold wD;simp
 generalize wD o=E at *;obtain⟨J,N⟩:∃J:Nat->((Option Addr×Nat×Nat)×Int)->ad->Prop,∀w g h',J w g h'=(∃i,aZ g.2 i/\w=a-i/\i<=a/\Le h h'/\bt 100 yj h h' (.slice g.1.1 g.1.2.1 g.1.2.2) (E.take i)):=⟨_,λ_ _ _=>rfl⟩;have dL:J a ((none,0,0),0) h:=by rw[N];exact⟨0,⟨rfl⟩,rfl,by omega,Le.refl _,bt.nil⟩
 refine fU A [10] (aj eJr.aw eJr.bq) Tryz.func127 rfl (by kernel_rfl) ?_;cbv;repeat (first|rw[av A] | (refine cr g0 ?_;cbv))
 refine aX.go (G:=(Option Addr×Nat×Nat)×Int) (λg=>[(2,.v (.slice g.1.1 g.1.2.1 g.1.2.2)),(13,.v (.int .i64 g.2))]) (λ_=>[]) (λw g h'=>J w g h') a ((none,0,0),0) (by constructor<;>cbv) dL ?_
 intro w g h2 hI;rw[N]at hI;cbv;obtain⟨⟨gb,m,gc⟩,z⟩:=g;obtain⟨i,D,hw,hi,l2,K⟩:=hI;have D:aZ z i:=D;have K:bt 100 yj h h2 (.slice gb m gc) (E.take i):=K;have nq:=K.sl.len;rw[eA]at nq;have f1:A .aN .lss z (A .nat a)=decide (i<a):=by rw[aR A,D.eq,T.nat];exact decide_eq_decide.2 (by show(i:Int)<(a:Int)↔_;omega)
 rw[f1];by_cases hc:i<a
 .rw[ak hc];obtain⟨x,hx⟩:=cB o i;have LI:=hB x (cK hx);have ix:=D.ix hc;have iV:L.isSome=true:=q.op.sl.bp;have aU:a-(i+1)<w:=by omega
  have fT:=lY (lO hx);have bX:∀b' m' c' h',Le h h'->bt 100 yj h h' (.slice b' m' c') (E.take i++[jN x.id x.JQ])->J (a-(i+1)) ((b',m',c'),A .aT .add .i64 z 1) h':=λb' m' c' h' l' q'=>by
   rw[N];exact⟨i+1,D.succ (A:=A),rfl,hc,l',by rw[fT];exact q'⟩
  have oF:m+1<=2^39:=by omega
  have lH:(jN x.id x.JQ).length=32:=fL _;have aB:=q.op.sl;clear f1 N dL fT lO;generalize E.take i=Lc at *;obtain⟨RV,He⟩:=x;cbv;refine⟨⟨iV,ix⟩,?_⟩;cbv;refine aB.Lv l2 hx D.eq (λcs f=>?_);obtain⟨rb,rn,rc,rfl,qr⟩:=f;have qr:Sl 161 bz h (.slice rb rn rc) He:=qr;have AH:rn<=2^30:=by rw[qr.len];exact LI.len
  cbv;refine cZE (qr.mono (l2.t _)) LI.cKm AH (λh3 g l3 W=>?_);have lH:(jN RV He).length=32:=lH;generalize jN RV He=RH at *;cbv;intro n4 h4 FA e4;have l4:Le h3 h4:=by rw[e4];exact Le.set FA
  have q4:=bf (s:=yj) (cs:=hl g) ((congrFun e4 n4).trans ae) (EJ (h:=h4) W lH);clear e4;cbv;refine(K.mono ((l3.trans l4).t _)).append q4 (by decide) rfl (by decide) oF ((l2.trans l3).trans l4) (λm5 b5 c5 v JJ F t5 k5 q5=>?_);have iD:=bX b5 m5 c5 v F q5;clear bX k5;cbv;refine⟨_,((b5,m5,c5),A .aT .add .i64 z 1),aU,by constructor<;>cbv,iD⟩
 rw[bn hc];rw[ie (by omega)]at K;have QL:m=a:=by omega
 subst QL;have g2:=l2 _ _ g0;clear N dL lO;cbv;repeat (first|rw[av A] | (refine cr g2 ?_;cbv)|(refine⟨⟨_,rfl,rfl⟩,?_⟩;cbv))
 refine bZl E.length K.sl (kB _) (λh3 g1 l3 yB lH=>?_);have Ok:=l2.trans l3;have g3:=l3 _ _ g2;have Cg:(vE bs).length=32:=by
  unfold vE;cases bs.getLast? with
  |none=>rfl
  |some x=>exact Bd x
 generalize gP E=root at *;obtain⟨r,Fw⟩:∃r,r=vE bs:=⟨_,rfl⟩;rw[<-Fw]at hk Cg;obtain⟨C,R⟩:∃C:(Nat->Int)->ad->Prop,∀g h',C g h'=(Le h h'/\hl g=aQ r):=⟨_,λ_ _=>rfl⟩;cbv;repeat (first|rw[av A] | (refine cr g3 ?_;cbv)|(refine⟨⟨_,rfl,rfl⟩,?_⟩;cbv))
 rw[<-Ot];have f2:A .aN .gtr (A .nat n) 0=decide (0<n):=by rw[bC A,T.nat];exact decide_eq_decide.2 (by show(n:Int)>0↔_;omega)
 obtain⟨z0,xP⟩:∃z0,z0=A .aT .sub .i64 (A .nat n) 1:=⟨_,rfl⟩;have xw:0<n->aZ z0 (n-1):=λh=>⟨by
  rw[xP,T.aT,T.nat];show IntKind.i64.wrap ((n:Int)-1)=_;rw[IntWalk.i64_in _ (by omega)];omega⟩
 refine ld.go (G:=Nat->Int) (λ_=>[]) (λg=>[(5,zT j g g1 (A .nat m))]) C ?_ ?_
 .cbv;repeat (first|rw[av A] | (refine cr g3 ?_;cbv)|(refine⟨⟨_,rfl,rfl⟩,?_⟩;cbv))
  rw[f2];by_cases kO:0<n
  .obtain⟨x,hx⟩:=cB bs (n-1);have Z:r=ef x:=by rw[Fw];unfold vE;rw[kQu,show bs.length-1=n-1 from by omega,hx];rfl
   have AQ:∀g h',Le h h'->hl g=aQ (ef x)->C g h':=λg h' l' W=>by rw[R,Z];exact⟨l',W⟩
   have xw:=xw kO;have ix:=xw.ix (len:=n) (by omega);have iV:b2.isSome=true:=q.bk.sl.bp;have ay:=q.bk.sl;rw[ak kO];clear f2 R;cbv;repeat (first|rw[av A] | (refine cr g3 ?_;cbv)|(refine⟨⟨_,rfl,rfl⟩,?_⟩;cbv))
   rw[<-xP];refine⟨⟨iV,ix⟩,?_⟩;cbv;refine ay.Lv Ok hx xw.eq (λcs f=>?_);obtain⟨f,hp,hr⟩:=f;obtain⟨xn,xp,xr,xc⟩:=x;obtain⟨gp,HX⟩:=sK (b:=xp) hp;obtain⟨gr,HW⟩:=sK (b:=xr) hr;have f:cs=zT xn gp gr xc:=by rw[f,mW,HX,HW]
   subst f;cbv;refine bZr HX HW hp hr (λv u F ab=>?_);have B:=AQ u v (Ok.trans F) ab;clear AQ;cbv;refine⟨u,⟨?_,?_,?_⟩,B⟩<;>cbv
  have Z:r=List.replicate 32 0:=by rw[Fw];have:bs=[]:=kh (by omega);subst this;rfl
  have B:C (λ_=>0) h3:=by rw[R,Z];exact⟨Ok,rfl⟩
  rw[bn kO];clear f2 R;cbv;refine⟨_,⟨?_,?_,?_⟩,B⟩<;>cbv
 intro g h4 B;rw[R]at B;cbv;obtain⟨l4,W⟩:=B;have g4:=l4 _ _ g0;repeat (first|rw[av A] | (refine cr g4 ?_;cbv)|(refine⟨⟨_,rfl,rfl⟩,?_⟩;cbv))
 intro nn v rW e5;have F:Le h4 v:=by rw[e5];exact Le.set rW
 have qn:Sl 224 dU v (.slice (zsA nn) 1 1) [⟨j,r,root,A .nat m⟩]:=bf (s:=dU) (cs:=zT j g g1 (A .nat m)) ((congrFun e5 nn).trans ae) ⟨(mW ..).trans (by rw[W,yB]),Cg,lH⟩;have O:=l4.trans F;have u:=F _ _ g4;clear e5;cbv;repeat (first|rw[av A] | (refine cr u ?_;cbv)|(refine⟨⟨_,rfl,rfl⟩,?_⟩;cbv))
 refine(q.bk.mono (O.t _)).app qn (by decide) rfl (by decide) (by omega) (q.le.trans O) (λm6 b6 c6 h6 QJ l6 t6 k6 u6=>?_);have g6:h6 p=_:=k6 _ _ u (.inr (.inr (λc fr e=>by cases e)));have aE:∀tys,224∉tys->cO tys h h6:=λtys e=>(O.t tys).trans (t6 tys e);have U:=(q.op.mono (O.t _)).mono (t6 _ (by decide));have X:=(q.tx.mono (O.t _)).mono (t6 _ (by decide));have kD:=q.new;clear k6 t6 qn u g4;cbv;repeat (first|rw[av A] | (refine cr g6 ?_;cbv)|(refine⟨⟨_,rfl,rfl⟩,?_⟩;cbv))
 refine ju g6 (by show 3<=7;decide) (λy e7=>?_);have S:=(congrFun e7 p).trans ae;have x7:dX [277] h6 y:=by rw[e7];exact gN g6 (by decide)
 have k7:Kp [p] h6 y:=by rw[e7];exact Kp.set (by simp)
 have S:y p=zcL 277 [.int .i64 I,.slice L m c1,.slice b6 m6 c6,.slice b3 n3 c3,.int .u32 d,.int .i32 l,.int .u32 s]:=S;clear e7;have aD:∀tys,277∉tys->224∉tys->cO tys h y:=λtys e1 P=>(aE tys P).trans (x7.t (λt ht he=>e1 (SW.1 he ▸ ht)));have aA:=U.mono (x7.t (by decide));have ax:=X.mono (x7.t (by decide));have aG:=u6.mono (x7.t (by decide));have l7:Le h0 y:=l6.aV (bs:=[p]) (by simpa using kD) k7;clear U X u6 x7 k7 l6 g6;cbv;repeat (first|rw[av A] | (refine cr S ?_;cbv)|(refine⟨⟨_,rfl,rfl⟩,?_⟩;cbv))
 intro V h8 aw e8;have H:Le y h8:=by rw[e8];exact Le.set aw
 have g8:=H _ _ S;have Q:Sl 47 gF h8 (.slice (zsA V) 1 1) [o]:=bf (s:=gF) (cs:=[.slice L m c1]) ((congrFun e8 V).trans ae) ⟨_,rfl,aA.sl.mono (H.t _)⟩;clear e8;cbv;repeat (first|rw[av A] | (refine cr g8 ?_;cbv)|(refine⟨⟨_,rfl,rfl⟩,?_⟩;cbv))
 refine(ax.mono (H.t _)).app Q (by decide) rfl (by decide) (by omega) (l7.trans H) (λm9 b9 c9 h9 aH l9 t9 k9 u9=>?_);have g9:h9 p=_:=k9 _ _ g8 (.inr (.inr (λc fr e=>by cases e)));have aC:∀tys,277∉tys->224∉tys->47∉tys->cO tys h h9:=λtys e1 P e3=>((aD tys e1 P).trans (H.t tys)).trans (t9 tys e3);have aF:=(aG.mono (H.t _)).mono (t9 _ (by decide));clear k9 t9 Q g8 S;cbv;repeat (first|rw[av A] | (refine cr g9 ?_;cbv)|(refine⟨⟨_,rfl,rfl⟩,?_⟩;cbv))
 refine ju g9 (by show 4<=7;decide) (λY qF=>?_);have M:=(congrFun qF p).trans ae;have an:dX [277] h9 Y:=by rw[qF];exact gN g9 (by decide)
 have AD:Kp [p] h9 Y:=by rw[qF];exact Kp.set (by simp)
 have M:Y p=zcL 277 [.int .i64 I,.slice L m c1,.slice b6 m6 c6,.slice b9 m9 c9,.int .u32 d,.int .i32 l,.int .u32 s]:=M;clear qF;cbv;repeat (first|rw[av A] | (refine cr M ?_;cbv)|(refine⟨⟨_,rfl,rfl⟩,?_⟩;cbv))
 refine ju M (by show 2<=7;decide) (λoM GC=>?_);have ao:=(congrFun GC p).trans ae;have aq:dX [277] Y oM:=by rw[GC];exact gN M (by decide)
 have al:Kp [p] Y oM:=by rw[GC];exact Kp.set (by simp)
 have x0:=an.trans aq;have:=hk oM b6 m6 c6 b9 m9 c9 (λtys e1 P e3=>(aC tys e1 P e3).trans (x0.t (λt ht he=>e1 (by simp at he;rcases he with rfl|rfl<;>exact ht)))) ⟨ao,bt.nil,aF.mono (x0.t (by decide)),u9.mono (x0.t (by decide)),kD,l9.aV (bs:=[p]) (by simpa using kD) (AD.trans al)⟩;clear hk GC;cbv;exact this
def eX(L:fA)(cs:List cV):fA:=if 4<=L.oR.length+1 then dq ⟨L.next+1,L.oR++[⟨L.next,cs⟩],L.dJ,L.Es⟩else⟨L.next+1,L.oR++[⟨L.next,cs⟩],L.dJ,L.Es⟩
structure yg(L:fA):Prop where
 nx:0<=L.next/\L.next<2^40
 op:∀t∈L.oR,Dv t
 n1:L.oR.length<=2^16
 n2:L.dJ.length<=2^16
 n3:L.Es.length<=2^16
theorem aQq{x:Int}{e i:Option Addr}{d:Nat}{q:List mu}{bs:List sf}{xs:List (List mu)}(u:vd h e a m i d p b n c ⟨x,q,bs,xs⟩)
 (r:∀h' g f Q v o j,Le h h'->vd h' g a f Q d v o n j ⟨x,q,bs,xs⟩->k (.agg #[.int .i64 x,.slice g a f,.slice Q d v,.slice o n j]) h'):
 Ct 124 [.agg #[.int .i64 x,.slice e a m,.slice i d p,.slice b n c]] h k:=
 cZC u (λT h' g f Q v o j s l o1 o2 t=>r h' g f Q v o j (s.trans l) ⟨o1.sl,(o2.mono (l.t _)).sl,(t.mono (l.t _)).sl⟩)
theorem RN.put{d l s:Int}{a c:Option Addr}{j g:Nat}{L:fA}(q:RN h0 h p d l s b n e a i f c j g L)(k m o:Int):
 RN h0 (bL h p (.cells #[.int .i64 L.next,.slice b n e,.slice a i f,.slice c j g,.int .u32 k,.int .i32 m,.int .u32 o] 277 (0,0))) p k m o b n e a i f c j g L:=by
 have x:dX [277] h (bL h p (.cells #[.int .i64 L.next,.slice b n e,.slice a i f,.slice c j g,.int .u32 k,.int .i32 m,.int .u32 o] 277 (0,0))):=gN q.out (by decide);have kp:Kp [p] h (bL h p (.cells #[.int .i64 L.next,.slice b n e,.slice a i f,.slice c j g,.int .u32 k,.int .i32 m,.int .u32 o] 277 (0,0))):=Kp.set (by simp);exact⟨ae,q.op.mono (x.t (by decide)),q.bk.mono (x.t (by decide)),q.tx.mono (x.t (by decide)),q.new,q.le.aV (bs:=[p]) (by simpa using q.new) kp⟩
theorem bZq{i:Int}{J M N:Option Addr}{y O q P r R:Nat}{p:List mu}{bs:List sf}{ts:List (List mu)}{cs:List cV}(ql:vd h J y O M q P N r R ⟨i,p,bs,ts⟩)(qc:Sl 161 bz h (.slice b n c) cs)
 (hB:yg ⟨i,p,bs,ts⟩) (Ki:Dv ⟨i,cs⟩) {L':fA} (L:eX ⟨i,p,bs,ts⟩ cs=L') 
 (hk:∀h' J y O M q P N r R b c,Le h h'->vd h' J y O M q P N r R L'->Sl 161 bz h' (.slice b n c) cs->k (.tuple #[.agg #[.int .i64 L'.next,.slice J y O,.slice M q P,.slice N r R],.agg #[.int .i64 i,.slice b n c]]) h'):
 Ct 51 [.agg #[.int .i64 i,.slice J y O,.slice M q P,.slice N r R],.slice b n c] h k:=by
 obtain⟨A,hA⟩:=Ar.ex;have fh:y=p.length:=ql.oR.len;have kW:p.length<=2^16:=hB.n1;have gZ:bs.length<=2^16:=hB.n2;have xU:ts.length<=2^16:=hB.n3;have gG:0<=i/\i<2^40:=hB.nx;have hz:A .aT .add .i64 i 1=i+1:=by rw[hA.aT];show IntKind.i64.wrap (i+1)=_;rw[IntWalk.i64_in _ (by omega)]
 refine fU A [7] (aj hKc.aw hKc.bq) Tryz.func51 rfl (by kernel_rfl) ?_;cbv;refine cZC ql (λhT h1 gE fH Q v m j lT l1 o1 o2 o3=>?_);have ab:=lT.trans l1;cbv;intro x h2 hx e2;have l2:Le h1 h2:=by rw[e2];exact Le.set hx
 have z:h2 x=zcL 277 [.int .i64 i,.slice gE y fH,.slice Q q v,.slice m r j,.int .u32 0,.int .i32 0,.int .u32 0]:=(congrFun e2 x).trans ae;have uY:h x=none:=ab.none hx;clear e2;cbv;refine PC (qc.mono ((ab.trans l2).t _)) (λh3 X Y l3 qt=>?_);have w:=l3 _ _ z;have an:hT x=none:=l1.none hx;have ng:=(l1.trans l2).trans l3;have qt:=qt.sl;clear z;cbv;repeat (first|rw[av A] | (refine cr w ?_;cbv)|(refine⟨⟨_,rfl,rfl⟩,?_⟩;cbv))
 rw[hz];refine ju w (by show 1<=7;decide) (λh4 e4=>?_);have g4:=(congrFun e4 x).trans ae;have x4:dX [277] h3 h4:=by rw[e4];exact gN w (by decide)
 have k4:Kp [x] h3 h4:=by rw[e4];exact Kp.set (by simp)
 have g4:h4 x=zcL 277 [.int .i64 (i+1),.slice gE y fH,.slice Q q v,.slice m r j,.int .u32 0,.int .i32 0,.int .u32 0]:=g4;clear e4;have l4:Le hT h4:=ng.aV (bs:=[x]) (by simpa using an) k4;have ag:=(o1.mono ((l2.trans l3).t _)).mono (x4.t (by decide));have D:=qt.mono (x4.t (by decide));clear x4 k4 w;cbv;repeat (first|rw[av A] | (refine cr g4 ?_;cbv)|(refine⟨⟨_,rfl,rfl⟩,?_⟩;cbv))
 intro nn h5 rW e5;have V:Le h4 h5:=by rw[e5];exact Le.set rW
 have qn:Sl 172 dY h5 (.slice (zsA nn) 1 1) [⟨i,cs⟩]:=bf (s:=dY) (cs:=[.int .i64 i,.slice X n Y]) ((congrFun e5 nn).trans ae) ⟨_,_,_,rfl,D.mono (V.t _)⟩;have g5:=V _ _ g4;have Z:=D.mono (V.t _);clear e5;cbv;repeat (first|rw[av A] | (refine cr g5 ?_;cbv)|(refine⟨⟨_,rfl,rfl⟩,?_⟩;cbv))
 refine(ag.mono (V.t _)).app qn (by decide) rfl (by decide) (by omega) (l4.trans V) (λW b6 c6 h6 QJ l6 t6 k6 u6=>?_);have g6:h6 x=_:=k6 _ _ g5 (.inr (.inr (λc fr e=>by cases e)));have al:=Z.mono (t6 _ (by decide));clear k6 t6 qn g5 g4;cbv;repeat (first|rw[av A] | (refine cr g6 ?_;cbv)|(refine⟨⟨_,rfl,rfl⟩,?_⟩;cbv))
 refine ju g6 (by show 2<=7;decide) (λT e7=>?_);have E:=(congrFun e7 x).trans ae;have x7:dX [277] h6 T:=by rw[e7];exact gN g6 (by decide)
 have k7:Kp [x] h6 T:=by rw[e7];exact Kp.set (by simp)
 clear e7;have l7:Le hT T:=l6.aV (bs:=[x]) (by simpa using an) k7;have q7:RN h T x 0 0 0 b6 W c6 Q q v m r j ⟨i+1,p++[⟨i,cs⟩],bs,ts⟩:=⟨E,(u6.mono (x7.t (by decide))).base lT,o2.mono (l7.t _),o3.mono (l7.t _),uY,lT.trans l7⟩;have B:=al.mono (x7.t (by decide));clear E x7 k7 u6 g6 ag al Z D l4 V l6;have E:=q7.out;have L:(if 4<=p.length+1 then dq ⟨i+1,p++[⟨i,cs⟩],bs,ts⟩else⟨i+1,p++[⟨i,cs⟩],bs,ts⟩)=L':=L;have f3:A .aN .geq (A .nat W) 4=decide (4<=p.length+1):=by rw[cH A,hA.nat];exact decide_eq_decide.2 (by show(W:Int)>=4↔_;omega)
 obtain⟨C,S⟩:∃C:(Int×Int×Int×(Option Addr×Nat×Nat)×(Option Addr×Nat×Nat)×(Option Addr×Nat×Nat))->ad->Prop,∀g h',C g h'=(RN h h' x g.1 g.2.1 g.2.2.1 g.2.2.2.1.1 g.2.2.2.1.2.1 g.2.2.2.1.2.2 g.2.2.2.2.1.1 g.2.2.2.2.1.2.1 g.2.2.2.2.1.2.2 g.2.2.2.2.2.1 g.2.2.2.2.2.2.1 g.2.2.2.2.2.2.2 L'/\Sl 161 bz h' (.slice X n Y) cs):=⟨_,λ_ _=>rfl⟩;have AQ:∀h' g1 z w,RN h h' x 1 0 0 g1.1 g1.2.1 g1.2.2 z.1 z.2.1 z.2.2 w.1 w.2.1 w.2.2 L'->Sl 161 bz h' (.slice X n Y) cs->C (1,0,0,g1,z,w) h':=λh' g1 z w a b=>by rw[S];exact⟨a,b⟩
 cbv;refine ld.go (G:=(Int×Int×Int×(Option Addr×Nat×Nat)×(Option Addr×Nat×Nat)×(Option Addr×Nat×Nat))) (λ_=>[]) (λ_=>[(2,[.int .i64 i,.slice J y O,.slice M q P,.slice N r R]),(4,[.int .i64 0,.slice none 0 0,.slice none 0 0,.slice none 0 0]),(5,[.int .i64 0,.slice none 0 0]),(7,[.int .i64 i,.slice X n Y])]) C ?_ ?_
 .cbv;repeat (first|rw[av A] | (refine cr E ?_;cbv)|(refine⟨⟨_,rfl,rfl⟩,?_⟩;cbv))
  rw[f3];by_cases DU:4<=p.length+1
  .rw[if_pos DU]at L;rw[ak DU];cbv;repeat (first|rw[av A] | (refine cr E ?_;cbv)|(refine⟨⟨_,rfl,rfl⟩,?_⟩;cbv))
   refine cKh (f:=127) (fl:=[.zP x]) (cl:=[]) E (o:=4) rfl rfl (λI e8=>?_);have u:=q7.put 0 1 0;have hb:I=bL T x (.cells #[.int .i64 (i+1),.slice b6 W c6,.slice Q q v,.slice m r j,.int .u32 0,.int .i32 1,.int .u32 0] 277 (0,0)):=e8;have u:RN h I x 0 1 0 b6 W c6 Q q v m r j ⟨i+1,p++[⟨i,cs⟩],bs,ts⟩:=by rw[hb];exact u
   have K:Sl 161 bz I (.slice X n Y) cs:=B.mono (by rw[hb];exact(gN E (ex:=[277]) (by decide)).t (by decide));clear e8 hb f3;refine RF u (λt ht=>?_) (by rw[cy,qA];omega) (by omega) (by omega) (λh9 Q nS v m qJ j t9 q9=>⟨rfl,_,q9.out,rfl,rfl,?_⟩)
   .rcases wy.1 ht with ht|ht
    .exact hB.op t ht
    rw[SW.1 ht];exact Ki
   have zJ:RN h (bL h9 x (.cells #[.int .i64 (i+1),.slice none 0 0,.slice Q nS v,.slice m qJ j,.int .u32 1,.int .i32 0,.int .u32 0] 277 (0,0))) x 1 0 0 none 0 0 Q nS v m qJ j (dq ⟨i+1,p++[⟨i,cs⟩],bs,ts⟩):=q9.put 1 0 0;rw[L]at zJ;have aq:Sl 161 bz (bL h9 x (.cells #[.int .i64 (i+1),.slice none 0 0,.slice Q nS v,.slice m qJ j,.int .u32 1,.int .i32 0,.int .u32 0] 277 (0,0))) (.slice X n Y) cs:=(K.mono (t9 (161::bz.tys) (by decide) (by decide) (by decide))).mono ((gN q9.out (ex:=[277]) (by decide)).t (by decide));have U:=AQ _ (none,0,0) (Q,nS,v) (m,qJ,j) zJ aq;clear S AQ hk;cbv;refine⟨_,⟨?_,?_,?_⟩,U⟩<;>cbv
  rw[if_neg DU]at L;rw[bn DU];have U:C (0,0,0,(b6,W,c6),(Q,q,v),(m,r,j)) T:=by rw[S,<-L];exact⟨q7,B⟩
  clear S hk f3;cbv;refine⟨_,⟨?_,?_,?_⟩,U⟩<;>cbv
 intro g I U;rw[S]at U;cbv;obtain⟨d,l,s,⟨b4,n4,c4⟩,⟨b5,n5,c5⟩,⟨H,n6,F⟩⟩:=g;obtain⟨u,K⟩:=U;have u:RN h I x d l s b4 n4 c4 b5 n5 c5 H n6 F L':=u;have g8:=u.out;have ao:vd I b4 n4 c4 b5 n5 c5 H n6 F L':=⟨u.op.sl,u.bk.sl,u.tx.sl⟩;have ar:=u.le;clear S AQ L q7 B o1 o2 o3 ql qc;obtain⟨NW,Qr,xY,aA⟩:=L';have g8:I x=zcL 277 [.int .i64 NW,.slice b4 n4 c4,.slice b5 n5 c5,.slice H n6 F,.int .u32 d,.int .i32 l,.int .u32 s]:=g8;repeat (first|rw[av A] | (refine cr g8 ?_;cbv)|(refine⟨⟨_,rfl,rfl⟩,?_⟩;cbv))
 refine aQq ao (λh9 gE fH Q v m j l9 q9=>?_);cbv;repeat (first|rw[av A] | (refine cr (l9 _ _ g8) ?_;cbv)|(refine⟨⟨_,rfl,rfl⟩,?_⟩;cbv))
 refine PC (K.mono (l9.t _)) (λiw ax aw gB ay=>?_);have:=hk iw gE n4 fH Q n5 v m n6 j ax aw (ar.trans (l9.trans gB)) (q9.le gB) ay.sl;clear hk;cbv;exact this
def mG(L:fA):fA×Int:=if L.oR.length=0 then(L,2)else(dq L,0)
def cW(bs:List sf):Int×Bs×Int:=match bs.getLast? with
 |none=>(0,List.replicate 32 0,2)
 |some b=>(b.n,ef b,0)
theorem jH(bs:List sf):(cW bs).2.1.length=32:=by
 unfold cW;split
 .rfl
 exact fL _
theorem RC{N:Int}{B e C:Option Addr}{L D t M E:Nat}{bs:List sf}(q:Sl 224 dU h (.slice e n t) bs)(Q:bs.length<=2^20)
 (c:∀h' g,Le h h'->hl g=aQ (cW bs).2.1->k (.tuple #[.agg (.int .i64 (cW bs).1::hl g).toArray,.int .i64 (cW bs).2.2]) h'):
 Ct 79 [.agg #[.int .i64 N,.slice B L D,.slice e n t,.slice C M E]] h k:=by
 obtain⟨A,f⟩:=Ar.ex;have U:n=bs.length:=q.len;have u:A .aN .eql (A .nat n) 0=decide (n=0):=by rw[au A,f.nat];exact decide_eq_decide.2 (by show(n:Int)=0↔_;omega)
 obtain⟨z,P⟩:∃z,z=A .aT .sub .i64 (A .nat n) 1:=⟨_,rfl⟩;have w:0<n->aZ z (n-1):=λh=>⟨by
  rw[P,f.aT,f.nat];show IntKind.i64.wrap ((n:Int)-1)=_;rw[IntWalk.i64_in _ (by omega)];omega⟩
 refine fz hJH A Tryz.func79 ?_;cbv;rw[u];by_cases v:n=0
 .have l:cW bs=(0,List.replicate 32 0,2):=by have:bs=[]:=kh (by omega);subst this;rfl
  rw[l]at c;rw[ak v];have:=c h (λ_=>0) (Le.refl _) rfl;clear c;cbv;exact this
 obtain⟨x,hx⟩:=cB bs (n-1);have l:cW bs=(x.n,ef x,0):=by unfold cW;rw[kQu,show bs.length-1=n-1 from by omega,hx]
 rw[l]at c;have w:=w (by omega);have ix:=w.ix (len:=n) (by omega);have i:e.isSome=true:=q.bp;rw[bn v];clear u l;cbv;rw[<-P];repeat (first|(refine⟨⟨i,ix⟩,?_⟩;cbv)|(rw[<-P];cbv))
 obtain⟨s,d,xr,j⟩:=x;refine q.cu hx w.eq (o:=0) (m:=1) (by decide) (λcs a=>?_);obtain⟨a,p,r⟩:=a;have a:cs=.int .i64 s::(aQ d++(aQ xr++[.int .i64 j])):=a;subst a;cbv;repeat (first|(refine⟨⟨i,ix⟩,?_⟩;cbv)|(rw[<-P];cbv))
 refine q.load hx w.eq (λcs a=>?_);obtain⟨a,p,r⟩:=a;have p:d.length=32:=p;have r:xr.length=32:=r;obtain⟨G,X⟩:=sK (b:=d) p;obtain⟨I,H⟩:=sK (b:=xr) r;have a:cs=zT s G I j:=by rw[a,mW,X,H]
 subst a;cbv;refine bZr X H p r (λK F y J=>?_);have:=c K F y J;have O:=q.mono (y.t _);clear c;cbv;refine O.cu hx w.eq (o:=0) (m:=1) (by decide) (λcs a=>?_);obtain⟨a,p,r⟩:=a;have a:cs=.int .i64 s::(aQ d++(aQ xr++[.int .i64 j])):=a;subst a;cbv;repeat (first|(refine⟨⟨_,rfl,rfl⟩,?_⟩;cbv)|(refine⟨⟨i,ix⟩,?_⟩;cbv)|(rw[<-P];cbv))
 exact this
theorem RE{n:Int}{e i l:Option Addr}{q d r:Nat}{p:List mu}{bs:List sf}{ts:List (List mu)}(N:vd h e a m i c q l d r ⟨n,p,bs,ts⟩)(D:yg ⟨n,p,bs,ts⟩){E:fA×Int}(u:mG ⟨n,p,bs,ts⟩=E)
 (v:∀h' e a m i c q l d r,Le h h'->vd h' e a m i c q l d r E.1->k (.tuple #[.agg #[.int .i64 E.1.next,.slice e a m,.slice i c q,.slice l d r],.int .i64 E.2]) h'):
 Ct 78 [.agg #[.int .i64 n,.slice e a m,.slice i c q,.slice l d r]] h k:=by
 obtain⟨A,hA⟩:=Ar.ex;have fh:a=p.length:=N.oR.len;have kW:p.length<=2^16:=D.n1;have gZ:bs.length<=2^16:=D.n2;have xU:ts.length<=2^16:=D.n3;have f1:A .aN .eql (A .nat a) 0=decide (p.length=0):=by rw[au A,hA.nat];exact decide_eq_decide.2 (by show(a:Int)=0↔_;omega)
 have u:(if p.length=0 then((⟨n,p,bs,ts⟩,2):fA×Int)else(dq ⟨n,p,bs,ts⟩,0))=E:=u;refine fz hJI A Tryz.func78 ?_;cbv;rw[f1];by_cases F:p.length=0
 .rw[if_pos F]at u;subst u;rw[ak F];cbv;refine aQq N (λw s H Q g b j l9 y=>?_);have:=v w s a H Q c g b d j l9 y;clear v;cbv;exact this
 rw[if_neg F]at u;rw[bn F];cbv;refine cZC N (λhT h1 s H Q g b j T V o1 o2 Y=>?_);have U:=T.trans V;cbv;intro x C hx L;have W:Le h1 C:=by rw[L];exact Le.set hx
 have B:C x=zcL 277 [.int .i64 n,.slice s a H,.slice Q c g,.slice b d j,.int .u32 0,.int .i32 0,.int .u32 0]:=(congrFun L x).trans ae;have uY:h x=none:=U.none hx;clear L;have K:=V.trans W;have Z:RN h C x 0 0 0 s a H Q c g b d j ⟨n,p,bs,ts⟩:=⟨B,(o1.mono (W.t _)).base T,o2.mono (K.t _),Y.mono (K.t _),uY,T.trans K⟩;cbv;repeat (first|rw[av A] | (refine cr B ?_;cbv)|(refine⟨⟨_,rfl,rfl⟩,?_⟩;cbv))
 refine cKh (f:=127) (fl:=[.zP x]) (cl:=[]) B (o:=4) rfl rfl (λP O=>?_);have G:=Z.put 0 1 0;have R:P=bL C x (.cells #[.int .i64 n,.slice s a H,.slice Q c g,.slice b d j,.int .u32 0,.int .i32 1,.int .u32 0] 277 (0,0)):=O;have G:RN h P x 0 1 0 s a H Q c g b d j ⟨n,p,bs,ts⟩:=by rw[R];exact G
 clear O R;refine RF G (λt ht=>D.op t ht) (by omega) (by omega) (by omega) (λw Q S g b J j t9 y=>⟨rfl,_,y.out,rfl,rfl,?_⟩);have z:RN h (bL w x (.cells #[.int .i64 n,.slice none 0 0,.slice Q S g,.slice b J j,.int .u32 1,.int .i32 0,.int .u32 0] 277 (0,0))) x 1 0 0 none 0 0 Q S g b J j (dq ⟨n,p,bs,ts⟩):=y.put 1 0 0;have Mj:(bL w x (.cells #[.int .i64 n,.slice none 0 0,.slice Q S g,.slice b J j,.int .u32 1,.int .i32 0,.int .u32 0] 277 (0,0))) x=_:=ae;have M:=z.le;have I:vd (bL w x (.cells #[.int .i64 n,.slice none 0 0,.slice Q S g,.slice b J j,.int .u32 1,.int .i32 0,.int .u32 0] 277 (0,0))) none 0 0 Q S g b J j ⟨n,[],bs++[kI p bs],ts++[p]⟩:=⟨z.op.sl,z.bk.sl,z.tx.sl⟩;have ab:E.1.next=n:=by rw[<-u];rfl
 have TF:E.1=dq ⟨n,p,bs,ts⟩:=by rw[<-u]
 have X:E.2=0:=by rw[<-u]
 rw[TF,X]at v;clear G y z Z o1 o2 Y B t9;have v:∀h' e a m i c q l d r,Le h h'->vd h' e a m i c q l d r ⟨n,[],bs++[kI p bs],ts++[p]⟩->k (.tuple #[.agg #[.int .i64 n,.slice e a m,.slice i c q,.slice l d r],.int .i64 0]) h':=v;cbv;repeat (first|rw[av A] | (refine cr Mj ?_;cbv)|(refine⟨⟨_,rfl,rfl⟩,?_⟩;cbv))
 refine aQq I (λoM s H Q g b j Br uX=>?_);have:=v oM s 0 H Q S g b J j (M.trans Br) uX;clear v;cbv;exact this
end Go.S
