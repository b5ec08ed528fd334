import Derived.Test.YthnbpiejemlbeaaGreatGA
import Derived.Laws.BytesArg
import Derived.Laws.IdiomStrings
set_option linter.all false
set_option maxRecDepth 100000
set_option maxHeartbeats 8000000
namespace Go.Sx
variable {bytes e e1 n size:Nat}{k:Value->ad->Prop}{h:ad}
theorem oI{j:Type}{s:Sh j}{x:Option Addr}{o:Nat}{xs:List j}(q:Sl e1 s h (.slice x n o) xs){a:Option Addr}(w:size=s.n)(W:bytes<=128)
  (M:n=0->k (.slice a 0 0) h)
 (G:∀b cap h',h b=none->0<n->Le h h'->cZ e s h' b cap xs->k (.slice (zsA b) n cap) h'):iq h a 0 0 x n size bytes e k:=by
 subst w;obtain⟨cs,t,f,u,v⟩:=q.kL;have g:=q.len;obtain⟨B,Z⟩:=q.bound;refine⟨cs,t,u,λz=>?_,λA=>?_⟩
 .have i:n=0:=by omega
  have m:cs=[]:=kh (by rw[f,i];simp);subst i;exact .inl ⟨m,M rfl⟩
 refine⟨?_,?_,[],.inl ⟨by simp,rfl⟩,λb c h' r e1 y p d=>?_⟩
 .have Q:(2:Nat)^40=1099511627776:=rfl;have U:(2:Nat)^48=281474976710656:=rfl;have:2*(0+n)*bytes<=2*(0+n)*128:=kXe _ W;omega
 .have Q:(2:Nat)^40=1099511627776:=rfl;have U:(2:Nat)^48=281474976710656:=rfl;omega
 have l:Le h h':=by rw[d];exact Le.set e1
 have:=G b c h' e1 (by omega) l ⟨⟨cs++r,?_,?_,?_⟩,by omega,by omega⟩
 .simpa using this
 .rw[d,ae];simp
 .have:=v h' (l.t _) [] r;simpa using this
 simp only[cy,f,p];rw[<-jKm];congr 1;omega
theorem bt.app{F:Type}{s:Sh F}{h0:ad}{b x:Option Addr}{len cap J:Nat}{xs ys:List F}(q:bt e s h0 h (.slice b len cap) xs)(E:Sl e1 s h (.slice x n J) ys)(L:e∉s.tys)(P:size=s.n)(W:bytes<=128)(M:len+n<=2^39)
  (r:Le h0 h) (v:∀m d c' h',m=len+n->Le h0 h'->(∀tys,e∉tys->cO tys h h')->(∀j o,h j=some o->(cap=0\/b≠zsA j\/∀c fr,o≠.cells c e fr)->h' j=some o)->bt e s h0 h' (.slice d m c') (xs++ys)->k (.slice d m c') h'):
 iq h b len cap x n size bytes e k:=by
 subst P;obtain⟨cs,I,f,y,z⟩:=E.kL;have l:=q.sl.len;have H:=E.len;have g:cap<len+n->uv h b len cap n s.n bytes e cs k:=λA=>by
  refine sQ q.sl A rfl W M y f (ys:=ys) (by rw[H];exact kB _) (λh' hl=>?_) (λD c h' e1 p T o=>?_)
  .have:=z h' (hl.t _) [] [];simpa using this
  exact v _ _ _ h' rfl (r.trans p) (λtys _=>p.t tys) (λj o a _=>p j o a) (o.buf (r.none e1) (by rw[cy,l,H]))
 refine⟨cs,I,?_⟩;by_cases V:len+n<=cap
 .refine⟨y,λ_=>?_,λA=>by omega⟩;by_cases C:n=0
  .have G:cs=[]:=kh (by rw[f,C];simp);have N:ys=[]:=kh (by omega);refine .inl ⟨G,v _ _ _ h rfl r (λ_ _=>cO.refl _ _) (λ_ _ a _=>a) ?_⟩;rw[N,vv,C];exact q
  rcases q.out with⟨d,t,u⟩|⟨D,U,t,u,o⟩
  .cases t;omega
  cases t;refine .inr ⟨⟨D,xs.length*s.n,none⟩,by simp[cI],?_⟩;have O:Rows s h cs 0 ys:=by have:=z h (cO.refl _ _) [] [];simpa using this
  refine o.write (ys:=ys) L (i:=xs.length) (by omega) (by omega) (by omega) (by rw[f,H]) O (λh' B Q o'=>?_);rw[Bk,RR (by omega),vv]at o';refine v _ _ _ h' rfl (r.aV (by simpa using u) B) Q (λj R a S=>?_) (o'.buf u (by rw[cy,H]));refine B j R a ?_;intro w;simp at w;rcases S with S|S|S
  .omega
  .exact S (by rw[w])
  obtain⟨c,K,-⟩:=o.out;rw[w,K]at a;cases a;exact S _ _ rfl
 exact g (by omega)
end Go.Sx
namespace Go.S
open Go.Sx Go.Proofs
variable {a:Type}{A:Ar}{f:FuncId}{z:Int}{tys:List Nat}{cl cs fl:List Value}{xs:List a}{c cap e e1 i m n o p:Nat}{b:Option Addr}{s:Sh a}{k:Value->ad->Prop}{h h':ad}{Q:ad->Prop}
def cj:Sh UInt8 where
 n:=1
 R _ cs x:=cs=[.int .u8 (x.toNat:Int)]
 len:=by rintro h cs x rfl;rfl
 one:=by rintro h cs x rfl;rfl
 tys:=[]
 mono:=λ_ q=>q
abbrev Bs:=List UInt8
theorem Gi{xs:Bs}{len:Nat}(q:Sl e1 cj h (.slice b len cap) xs)
 (d:∀h' f c',Le h h'->bt 5 cj h h' (.slice f len c') xs->k (.slice f len c') h'):
 Ct 254 [.slice b len cap] h k:=by
 refine cg eXn Tryz.func254 λA hA=>?_;cbv;refine ba (λa=>?_) (λa=>?_)
 .rw[hA.Cc]at a;cbv;have m:b=none:=by cases b<;>simp at a |-
  subst m;have hl:len=0:=by
   rcases jKj len with e|e
   .exact e
   have:=q.bp e;cases this
  have:=q.len;have hx:xs=[]:=kh (by omega);subst hx hl;exact d _ _ _ (Le.refl _) bt.nil
 cbv;intro s j o w;have l:Le h j:=by rw[w];exact Le.set o
 cbv;refine oI (q.mono (l.t _)) rfl (by decide) (λn=>?_) (λt c r e1 p g i=>?_)
 .cbv;have:=q.len;have hx:xs=[]:=kh (by omega);subst hx n;exact d _ _ _ l bt.nil
 cbv;exact d _ _ _ (l.trans g) (i.buf (l.none e1) q.len)
theorem cXx{p:Unit->Program}{u bs:List Value}(e:u=bs)(q:Gt p f u h k):Gt p f bs h k:=e ▸ q
theorem cKW{b:Nat}(q:oh h ⟨b,o,none⟩ (.int .u32 0))(r:oh h ⟨b,o+1,none⟩ (.int .i32 0))
 (Z:∀i,Up h b (o+1) (.int .i32 1) i->Ct f (fl++cl) i (λv d=>v=.tuple #[]/\oh d ⟨b,o,none⟩ (.int .u32 0)/\oh d ⟨b,o+1,none⟩ (.int .i32 1)/\Q d)) (k:aL f=true:=by kernel_rfl):
 Ct 244 [.pointer (some ⟨b,o,none⟩),.func (.func f) fl.toArray cl.toArray] h (λv h'=>v=.tuple #[]/\∃d e,Q d/\Up d b o (.int .u32 1) e/\Up e b (o+1) (.int .i32 0) h'):=by
 obtain⟨A,hA⟩:=Ar.ex;obtain⟨c,J⟩:∃g,g=aL:=⟨_,rfl⟩;have tk:gV Tryz.prog ⟨ty,c,Uy.aw,Uy.bq,λ_=>false,[],λ_ _ _=>False⟩:=by rw[J];exact aj _ _
 have z:c f=true:=by rw[J];exact k
 have H:c 325=true:=by rw[J];kernel_rfl
 have G:c 243=true:=by rw[J];kernel_rfl
 have F:c 77=true:=by rw[J];kernel_rfl
 have E:c 326=true:=by rw[J];kernel_rfl
 clear J k;refine nY A tk Tryz.func244 rfl (by kernel_rfl) ?_;cbv;rw[av A,H];cbv;refine(Jk r).mono (λv i hR=>?_);obtain⟨rfl,u⟩:=hR;have w:=u.other (by omega) q;cbv;rw[av A];rw[av A,G];cbv;refine(od w).mono (λv d hR=>?_);obtain⟨t,rfl,j,rfl⟩:=hR;have j:t=false:=by rw[j];rfl
 subst j;cbv;rw[hA.not];cbv;rw[av A,z];cbv;refine cXx (by cases fl with|nil=>cases cl<;>rfl|cons a t=>exact(show a::(t++cl)=a::((t++[])++cl)by rw[vv])) ((Z _ u).mono (λv d hR=>?_));obtain⟨rfl,l,m,p⟩:=hR;cbv;rw[F];cbv;refine(BJ l).mono (λv e hR=>?_);obtain⟨-,X⟩:=hR;have n:=X.other (by omega) m;cbv;rw[E];cbv;refine(yN n).mono (λv s hR=>?_);obtain⟨-,K⟩:=hR;cbv;exact⟨rfl,d,e,p,X,K⟩
theorem jXs{b:Nat}(q:oh h ⟨b,o,none⟩ (.int .u32 0))(i:oh h ⟨b,o+1,none⟩ (.int .i32 0))
 (G:∀d,Up h b (o+1) (.int .i32 1) d->Ct f (fl++cl) d (λv a=>v=.tuple #[]/\oh a ⟨b,o,none⟩ (.int .u32 0)/\oh a ⟨b,o+1,none⟩ (.int .i32 1)/\Q a)) (g:aL f=true:=by kernel_rfl):
 Ct 126 [.pointer (some ⟨b,o,none⟩),.func (.func f) fl.toArray cl.toArray] h (λv h'=>v=.tuple #[]/\∃a e,Q a/\Up a b o (.int .u32 1) e/\Up e b (o+1) (.int .i32 0) h'):=by
 have sl:=cKW q i G g;clear G g;generalize X:(Value.func (.func f) fl.toArray cl.toArray)=j at sl |-;refine cg Dw Tryz.func126 λA hA=>?_;clear X;cbv;rw[av A];refine(od q).mono (λv a hR=>?_);obtain⟨t,rfl,c,rfl⟩:=hR;have c:t=false:=by rw[c];rfl
 subst c;cbv;rw[hA.not];cbv;refine sl.mono (λv a hR=>?_);obtain⟨rfl,hR⟩:=hR;cbv;exact⟨rfl,hR⟩
theorem dJT{c:Value}{b:Nat}(q:oh h ⟨b,o,none⟩ (.int .u32 1)):
 Ct 126 [.pointer (some ⟨b,o,none⟩),c] h (λv h'=>v=.tuple #[]/\h'=h):=by
 refine cg Dw Tryz.func126 λA hA=>?_;cbv;rw[av A];refine(od q).mono (λv d hR=>?_);obtain⟨t,rfl,a,rfl⟩:=hR;have a:t=true:=by rw[a];rfl
 subst a;cbv;rw[hA.not];cbv;exact⟨rfl,True.intro⟩
theorem cKh{ty:Nat}{c:List Value}(g:h p=zcL ty c)(n:c[o]? =some (.int .u32 0))(q:c[o+1]? =some (.int .i32 0))
 (G:∀d,d=bL h p (.cells (c.set (o+1) (.int .i32 1)).toArray ty (0,0))->Ct f (fl++cl) d (λv a=>v=.tuple #[]/\∃c':List Value,a p=zcL ty c'/\c'[o]? =some (.int .u32 0)/\c'[o+1]? =some (.int .i32 1)/\
  k (.tuple #[]) (bL a p (.cells ((c'.set o (.int .u32 1)).set (o+1) (.int .i32 0)).toArray ty (0,0))))) (s:aL f=true:=by kernel_rfl):
 Ct 126 [.pointer (some ⟨p,o,none⟩),.func (.func f) fl.toArray cl.toArray] h k:=by
 refine(jXs (f:=f) (fl:=fl) (cl:=cl) (Q:=λa=>∃c':List Value,a p=zcL ty c'/\k (.tuple #[]) (bL a p (.cells ((c'.set o (.int .u32 1)).set (o+1) (.int .i32 0)).toArray ty (0,0)))) (cm g n) (cm g q) (λd u=>?_) s).mono (λv x hR=>?_)
 .refine(G d (u.exp g)).mono (λv a hR=>?_);obtain⟨e,c',b,m,e1,i⟩:=hR;exact⟨e,cm b m,cm b e1,c',b,i⟩
 obtain⟨rfl,a,w,⟨c',b,i⟩,t,u3⟩:=hR;have j:=t.exp b;have r:=(congrFun j p).trans ae;have l:=u3.exp r;rw[j,ek]at l;rw[l];exact i
structure Dy where
 b:Bs
 e:Int
structure Hc(h:ad)(p:Nat)(r:Dy):Prop where
 out:∃bb n c d,h p=zcL 411 [.slice bb n c,.int .i64 r.e,.int .u32 d,.int .i32 0,.int .u32 0]/\Sl 5 cj h (.slice bb n c) r.b/\((r.e=0/\d=0)\/(r.e≠0/\d=1))
theorem Hc.le{r:Dy}(q:Hc h p r)(l:Le h h'):Hc h' p r:=by obtain⟨bb,n,c,d,g,s,hd⟩:=q.out;exact⟨bb,n,c,d,l _ _ g,s.mono (l.t _),hd⟩
structure eJS(p:Nat)(h h':ad):Prop where
 kp:Kp [p] h h'
 ty:∃c e fr,h p=some (.cells c e fr)/\∃c' Km,h' p=some (.cells c' e Km)
theorem Fk(k:Kp [p] h h'){c:Array Value}{fr:Nat×Nat}(g:h p=some (.cells c e fr))(f:e∉tys):cO tys h h':=λb d i K m a=>
 k b _ a (by intro Z;simp at Z;rw[Z,g]at a;cases a;exact f m)
theorem Hc.lt{r:Dy}(q:Hc h p r)(k:Kp [p] h h')(e:411∉tys):cO tys h h':=by obtain⟨bb,n,c,d,g,-,-⟩:=q.out;exact Fk k g e
def rJ(e:Int)(r:Dy):Dy:=if e≠0/\r.e=0 then⟨r.b,e⟩else r
theorem dJC{a b:Nat}{x:Int}{t j:Nat}{s1 s2 s3 s y:Value}(d:h a=some (.cells #[.int .i64 x] t (0,0)))(g:h b=some (.cells #[.zP c] j (0,0)))
 (e:h c=zcL 411 [s1,y,s2,s3,s])  (i:k (.tuple #[]) (bL h c (.cells #[s1,.int .i64 x,s2,s3,s] 411 (0,0)))):
 Ct 365 [.zP a,.zP b] h k:=by
 refine cg dKu Tryz.func365 λA hA=>?_;cbv;refine cr g ?_;cbv;refine cr d ?_;cbv;rw[av A];refine ju e (by simp) (λh' f=>?_);subst f;cbv;exact i
theorem bZt{r:Dy}(q:Hc h p r)(x:Int)(o:∀h',Kp [p] h h'->Hc h' p (rJ x r)->k (.tuple #[]) h'):
 Ct 336 [.zP p,.int .i64 x] h k:=by
 obtain⟨bb,n,c,d,g,s,hd⟩:=q.out;have Q:=s.bound;refine cg dKR Tryz.func336 λA hA=>?_;cbv;intro i y z e1;cbv;intro j b Y l;have C:Le h y:=by rw[e1];exact Le.set z
 have D:Le y b:=by rw[l];exact Le.set Y
 have a:=C.trans D;have w:b j=some (.cells #[.int .i64 x] 33 (0,0)):=by rw[l];exact ae
 have t:b i=some (.cells #[.zP p] 296 (0,0)):=D _ _ (by rw[e1];exact ae);have m:=a _ _ g;have F:i≠p:=λe=>by rw[e,g]at z;cases z
 have G:j≠p:=λe=>by rw[e,C _ _ g]at Y;cases Y
 have E:A .aN .neq x 0=decide (x≠0):=az A ..;clear e1 l;cbv;refine cr w ?_;cbv;rw[E];by_cases hx:x≠0
 .rw[ak hx];cbv;refine cr t ?_;cbv;rw[av A];rcases hd with⟨he,rfl⟩|⟨he,rfl⟩
  .refine cKh (f:=365) (fl:=[]) (cl:=[.zP j,.zP i]) m rfl rfl (λB u=>?_);have J:B j=some (.cells #[.int .i64 x] 33 (0,0)):=by rw[u,ck G];exact w
   have X:B i=some (.cells #[.zP p] 296 (0,0)):=by rw[u,ck F];exact t
   have K:=(congrFun u p).trans ae;refine dJC J X K ⟨rfl,_,ae,rfl,rfl,?_⟩;rw[u,ek,ek];have P:rJ x r=⟨r.b,x⟩:=if_pos ⟨hx,he⟩;have kp:Kp [p] b (bL b p (.cells #[.slice bb n c,.int .i64 x,.int .u32 1,.int .i32 0,.int .u32 0] 411 (0,0))):=Kp.set (by simp);have:=o _ ((a.kp _).trans kp) (by rw[P];exact⟨bb,n,c,1,ae,(s.mono (a.t _)).mono (Fk kp m (by decide)),.inr ⟨hx,rfl⟩⟩);cbv;exact this
  refine(dJT (cm m rfl)).mono (λv H hR=>?_);obtain⟨rfl,rfl⟩:=hR;cbv;exact o _ (a.kp _) (by rw[show rJ x r=r from if_neg (λg=>he g.2)];exact q.le a)
 rw[bn hx];cbv;exact o _ (a.kp _) (by rw[show rJ x r=r from if_neg (λg=>hx g.1)];exact q.le a)
theorem gKK{xs:Bs}{len:Nat}(q:Sl e1 cj h (.slice b len cap) xs)
 (m:∀h' p,h p=none->Le h h'->Hc h' p ⟨xs,0⟩->k (.zP p) h'):
 Ct 141 [.slice b len cap] h k:=by
 refine cg eJe Tryz.func141 λA hA=>?_;cbv;refine Gi q (λi d f l n=>?_);cbv;intro p j a e;have c:Le i j:=by rw[e];exact Le.set a
 have g:=(congrFun e p).trans ae;cbv;exact m _ p (l.none a) (l.trans c) ⟨d,len,f,0,g,n.sl.mono (c.t _),.inl ⟨rfl,rfl⟩⟩
theorem _root_.Go.Sx.Sl.vo[hA:bI A](q:Sl e s h (.slice b n c) xs)(j:i<=n)(k:m=i):
 Sl e s h (.slice (A .cut b 0 z s.n) m c) (xs.take i):=by
 have d:=(q.sA (A:=A) (z:=z) j (m:=i) (c':=i) rfl rfl).out;obtain⟨l,cap,e1,o,f,g⟩:=d;subst k;have p:=q.bound;have hl:(xs.take m).length=m:=by rw[eA,<-q.len];omega
 refine⟨A .cut b 0 z s.n,c,by rw[hl],by rw[hl];omega,f,?_⟩;simp only[Value.slice.injEq]at e1;rw[e1.1];exact g
def jP(n:Nat)(r:Dy):Bs×Dy:=if n>r.b.length then([],rJ 8 r)else if r.e≠0 then([],r)else(r.b.take n,⟨r.b.drop n,0⟩)
theorem VT{r:Dy}(q:Hc h p r)(f:aZ z n)
 (a:∀h' b m c,Kp [p] h h'->Sl 5 cj h' (.slice b m c) (jP n r).1->Hc h' p (jP n r).2->k (.slice b m c) h'):
 Ct 335 [.zP p,.int .i64 z] h k:=by
 obtain⟨A,hA⟩:=Ar.ex;obtain⟨bb,m,c,d,g,s,hd⟩:=q.out;have Q:=s.bound;have y:=s.len;have fn:A .aN .gtr z (A .nat m)=decide (n>m):=by rw[bC A,hA.nat,f.eq];exact decide_eq_decide.2 (by rw[rz];omega)
 have F:n<=m->0<=z/\z<=(c:Int):=λv=>by have:=f.eq;omega
 have E:n<=m->0<=z/\z<=(m:Int):=λv=>by have:=f.eq;omega
 have x:=dy (A:=A) f;have C:=cJ (A:=A) (n:=m) f;have D:=cJ (A:=A) (n:=c) f;refine fz dKS A Tryz.func335 ?_;cbv;rw[av A];refine cr g ?_;cbv;rw[fn];by_cases B:n>m
 .have P:jP n r=([],rJ 8 r):=if_pos (by omega);rw[P]at a;rw[ak B];cbv;refine bZt q 8 (λi l w=>?_);have S:(rJ 8 r).e≠0:=by
   unfold rJ;split
   .exact(by decide:(8:Int)≠0)
   rename_i v;intro e;exact v ⟨by decide,e⟩
  obtain⟨o,K⟩:∃o,o=rJ 8 r:=⟨_,rfl⟩;rw[<-K]at w S a;obtain⟨J,M,L,x,u,s1,T⟩:=w.out;have t:A .aN .neq o.e 0=decide (o.e≠0):=az A ..;cbv;rw[av A];refine cr u ?_;cbv;rw[t,ak S];cbv;exact a _ _ _ _ l Sl.nil w
 have t:A .aN .neq r.e 0=decide (r.e≠0):=az A ..;rw[bn B];cbv;rw[av A];refine cr g ?_;cbv;rw[t];by_cases j:r.e≠0
 .have P:jP n r=([],r):=by unfold jP;rw[if_neg (by omega),if_pos j]
  rw[P]at a;rw[ak j];cbv;exact a _ _ _ _ (Kp.refl _ _) Sl.nil q
 have I:r.e=0:=by omega
 have P:jP n r=(r.b.take n,⟨r.b.drop n,0⟩):=by unfold jP;rw[if_neg (by omega),if_neg j]
 rw[P]at a;rw[bn j];cbv;rw[av A];refine cr g ?_;cbv;refine⟨F (by omega),?_⟩;cbv;rw[av A];refine cr g ?_;cbv;refine⟨E (by omega),?_⟩;cbv;rw[av A];refine ju g (by simp) (λi e1=>?_);have l:Kp [p] h i:=by rw[e1];exact Kp.set (by simp)
 have lt:cO [5] h i:=Fk l g (by decide);have u:=(congrFun e1 p).trans ae;have G:Sl 5 cj i (.slice (A .cut bb 0 (A .nat c) 1) n c) (r.b.take n):=(s.mono lt).vo (by omega) rfl;have H:Sl 5 cj i (.slice (A .cut bb z (A .nat c) 1) (m-n) (c-n)) (r.b.drop n):=(s.mono lt).jD f (by omega) rfl rfl;clear e1;cbv;rw[x];refine a _ _ _ _ l G ⟨_,_,_,d,?_,H,.inl ⟨rfl,by rcases hd with⟨_,e⟩|⟨e,_⟩<;>simp_all⟩⟩;rw[u,I];show some (Obj.cells #[_,_,_,_,_] _ _)=_;rw[C,D]
def nf:Bs->Nat
 | []=>0
 |b::r=>b.toNat+256*nf r
theorem Fi:∀l:Bs,nf l<256^l.length
 | []=>by simp[nf]
 |b::r=>by
  have h:=Fi r;have a:=b.toNat_lt;simp only[nf,wS,Nat.pow_succ];omega
theorem Qx:∀(l:Bs) (b:UInt8),nf (l++[b])=nf l+b.toNat*256^l.length
 | [],b=>by simp[nf]
 |a::r,b=>by
  simp only[kXj,nf,Qx r b,wS,Nat.pow_succ];rw[Nat.mul_add,Nat.mul_comm (256^r.length) 256,<-Nat.mul_assoc,<-Nat.mul_assoc,Nat.mul_comm 256 b.toNat];omega
theorem bJC(i:Nat):256^i=2^(8*i):=by rw[Nat.pow_mul]
theorem su{x:Nat}(h:x<2^64):IntKind.u64.wrap (x:Int)=(x:Int):=by have:(2:Nat)^64=18446744073709551616:=rfl;exact IntWalk.u64_in _ (by omega)
theorem Wo{b:Nat}(g:i<8)(f:b<256):aT .shl .u64 (b:Int) ((8*i:Nat):Int)=((b*256^i:Nat):Int):=by
 have h:b*256^i<2^64:=by
  have a:(256:Nat)^i<=256^7:=Nat.pow_le_pow_right (by omega) (by omega);have:b*256^i<=255*256^7:=kQH (by omega) a;have e:(255:Nat)*256^7<2^64:=by decide
  omega
 show IntKind.u64.wrap ((b:Int)*2^(min ((8*i:Nat):Int).toNat 64))=_;have c:min ((8*i:Nat):Int).toNat 64=8*i:=by omega
 rw[c];have d:(b:Int)*2^(8*i)=((b*256^i:Nat):Int):=by rw[bJC];push_cast;rfl
 rw[d,su h]
theorem aZo{a b:Nat}(k:i<8)(d:a<256^i)(j:b<256):aT .or .u64 (a:Int) ((b*256^i:Nat):Int)=((a+b*256^i:Nat):Int):=by
 have f:(256:Nat)^i<=256^7:=Nat.pow_le_pow_right (by omega) (by omega);have h0:b*256^i<=255*256^i:=kQH (by omega) (kB _);have g:(256:Nat)*256^7=2^64:=by decide
 have h:a+b*256^i<2^64:=by omega
 show IntKind.u64.wrap (((BitVec.ofInt 64 (a:Int)|||BitVec.ofInt 64 ((b*256^i:Nat):Int)).toNat:Nat):Int)=_;have c:(BitVec.ofInt 64 (a:Int)|||BitVec.ofInt 64 ((b*256^i:Nat):Int)).toNat=a+b*256^i:=by
  rw[BitVec.toNat_or,BitVec.toNat_ofInt,BitVec.toNat_ofInt];have e1:(((a:Int) % ((2^64:Nat):Int)).toNat)=a:=by rw[<-Int.natCast_emod,HH,Nat.mod_eq_of_lt (by omega)]
  have e:((((b*256^i:Nat):Int) % ((2^64:Nat):Int)).toNat)=b*256^i:=by rw[<-Int.natCast_emod,HH,Nat.mod_eq_of_lt (by omega)]
  rw[e1,e,Nat.or_comm];have:=Nat.two_pow_add_eq_or_of_lt (i:=8*i) (b:=a) (by rw[<-bJC];exact d) b;rw[<-bJC]at this;rw[Nat.mul_comm b,<-this,kQh]
 rw[c,su h]
theorem Wq{x:UInt8}(q:cj.R h cs x):∃z,cs=[.int .u8 z]/\cj.R h [.int .u8 z] x:=⟨_,q,rfl⟩
def nR(n:Nat)(r:Dy):Int×Dy:=(IntKind.i64.wrap (nf (jP n r).1:Int),(jP n r).2)
theorem Hu(n:Nat)(r:Dy):(jP n r).1.length<=n:=by
 unfold jP;split
 .simp
 split
 .simp
 simp only[eA];omega
theorem Jg{r:Dy}(q:Hc h p r)(E:aZ z n)(hn:n<=8)
 (C:∀h',Kp [p] h h'->Hc h' p (nR n r).2->k (.int .i64 (nR n r).1) h'):
 Ct 261 [.zP p,.int .i64 z] h k:=by
 refine cg eXg Tryz.func261 λA hA=>?_;cbv;refine VT q E (λo b m c W s1 q1=>?_);have hl:=Hu n r;have M:=s1.len;have P:nR n r=(IntKind.i64.wrap (nf (jP n r).1:Int),(jP n r).2):=rfl;rw[P]at C;clear P;generalize jP n r=D at *;obtain⟨l,r1⟩:=D;have hl:l.length<=n:=hl;have M:m=l.length:=M;have s1:Sl 5 cj o (.slice b m c) l:=s1;have I:∀z:Int,z=((nf l:Nat):Int)->k (.int .i64 (A .conv .i64 z)) o:=λz E=>by
  have:=C o W q1;rw[hA.conv,E];exact this
 obtain⟨J,j⟩:∃J:Nat->(Int×Int)->ad->Prop,∀w g h',J w g h'=(h'=o/\∃i,aZ g.1 i/\i<=m/\w=m-i/\g.2=((nf (l.take i):Nat):Int)):=⟨_,λ_ _ _=>rfl⟩;have B:J m (0,0) o:=by rw[j];exact⟨rfl,0,⟨rfl⟩,nr _,rfl,rfl⟩
 clear C;cbv;refine aX.go (G:=Int×Int) (λg=>[(12,.v (.int .i64 g.1)),(5,.v (.int .u64 g.2))]) (λ_=>[]) (λw g h'=>J w g h') m (0,0) (by constructor<;>cbv) B ?_
 intro w g K L;rw[j]at L;cbv;obtain⟨a,u⟩:=g;obtain⟨rH,i,f,Tq,hw,t⟩:=L;subst rH;have f:aZ a i:=f;have t:u=((nf (l.take i):Nat):Int):=t;have R:A .aN .lss a (A .nat m)=decide (i<m):=f.yY (aZ.nat m);have Q:i<m->b.isSome=true/\0<=a/\a<(m:Int):=λs=>⟨s1.bp,f.ix s⟩;have y:=λs=>f.succ (A:=A) s;have T:0<=A .aT .mul .i64 8 a:=by rw[hA.aT,f.eq];show 0<=IntKind.i64.wrap (8*(i:Int));rw[IntWalk.i64_in _ (by omega)];omega
 have V:∀(x:UInt8) (v:Int),l[i]? =some x->cj.R K [.int .u8 v] x->A .aT .or .u64 u (A .aT .shl .u64 (A .conv .u64 v) (A .aT .mul .i64 8 a))=((nf (l.take (i+1)):Nat):Int):=λx v hx d=>by
  have d:v=(x.toNat:Int):=by cases d;rfl
  subst d;have iv:i<l.length:=(ff.1 hx).1;have e1:A .aT .mul .i64 8 a=((8*i:Nat):Int):=by rw[hA.aT,f.eq];show IntKind.i64.wrap (8*(i:Int))=_;rw[IntWalk.i64_in _ (by omega)];omega
  have Nl:=x.toNat_lt;have O:A .conv .u64 (x.toNat:Int)=(x.toNat:Int):=by rw[hA.conv];exact su (by omega)
  have U:nf (l.take i)<256^i:=by have:=Fi (l.take i);rwa[eA,jKf (by omega)]at this
  rw[e1,O,hA.aT,Wo (by omega) (by omega),t,aZo (by omega) U (by omega),qM,hx];show _=((nf (l.take i++[x]):Nat):Int);rw[Qx,eA,jKf (by omega)]
 have X:∀F,F=((nf (l.take (i+1)):Nat):Int)->i<m->J (m-(i+1)) (A .aT .add .i64 a 1,F) K:=λF e s=>by rw[j];exact⟨rfl,i+1,y (by omega),s,rfl,e⟩
 have N:=f.eq;have Y:=I u;clear I;cbv;rw[R];by_cases U:i<m
 .obtain⟨x,hx⟩:=cB l i;rw[ak U];clear j B y Y;cbv;refine⟨Q U,?_⟩;cbv;refine s1.load hx N (λcs H=>?_);obtain⟨v,d,hR⟩:=Wq H;subst d;have S:=X _ (V x v hx hR) U;clear X V hR H;cbv;refine⟨T,?_⟩;cbv;refine⟨m-(i+1),(A .aT .add .i64 a 1,_),by omega,by constructor<;>cbv,S⟩
 have:i=l.length:=by omega
 have Z:=Y (by rw[t,this,Bk]);clear j X V B y Y;rw[bn U];cbv;exact Z
def strOf(l:Bs):ByteArray:=⟨l.toArray⟩
def kJ(s:ByteArray):Bs:=s.data.toList
theorem Aa:Tryz.prog.underlying 5=some (.int .u8):=by kernel_rfl
theorem xI:Tryz.prog.underlying 176=some (.slice 5):=by kernel_rfl
theorem wV:Tryz.prog.underlying 9=some .string:=by kernel_rfl
theorem rh{l:Bs}(q:Sl e1 cj h (.slice b n c) l)(p:k (.string (strOf l)) h):
 fw (λ_=>Tryz.prog) (λ_=>Go.convert 176 9 (.slice b n c)) h k:=by
 have r:=q.len;subst r;refine⟨λw e=>⟨_,w,h,?_,p,bT.refl e⟩⟩;obtain⟨s,cap,e1,t,u,m⟩:=q.out;cases e1;rcases m with rfl| ⟨lE,off,cc,fr,rfl,g,i⟩
 .cases b with
  |none=>exact run_convert_bytes_nil w _ _ xI Aa _ _ _ wV
  |some a=>exact run_convert_bytes_back w _ _ _ a c [] xI Aa wV (λj d=>absurd d (by simp))
 refine run_convert_bytes_back w _ _ _ ⟨lE,off,none⟩ c l xI Aa wV (λj d=>?_);have hx:=i.2 j l[j] (by simp[d]);have hx:((cc.toList.drop (off+j*1)).take 1)=[.int .u8 (l[j].toNat:Int)]:=hx;have o:cc[off+j]? =some (.int .u8 (l[j].toNat:Int)):=by have:=congrArg (λz=>z[0]?) hx;simpa[qH,rB]using this
 have f:(⟨lE,off,none⟩:Addr).add j=⟨lE,off+j,none⟩:=by simp[Addr.add]
 rw[f];simp[World.cell?,e _ _ g,o]
theorem wY{s:ByteArray}(f:s.size<=2^40)(e:∀n c m h',m=s.size->h n=none->Le h h'->Sl 5 cj h' (.slice (zsA n) m c) (kJ s)->k (.slice (zsA n) m c) h'):
 fw (λ_=>Tryz.prog) (λ_=>Go.convert 9 176 (.string s)) h k:=by
 refine⟨λw b=>?_⟩;have d:=run_bytes_of_string (P:=Tryz.prog) w 9 176 5 s wV xI Aa;have M:s.size<=grownCap w s.size 0 5:=grownCap_ge w _ _ _;generalize grownCap w s.size 0 5=cap at d M;have o:h w.heap.size=none:=b.oa (kB _);have oC:s.size=(kJ s).length:=(jKo (xs:=s.data)).symm;refine⟨_,_,bL h w.heap.size (.cells (bytesRow s cap) 5 ((bytesRow s cap).size,(bytesRow s cap).size+1)),d,e _ _ _ _ rfl o (Le.set o) ?_,?_⟩
 .refine⟨_,cap,by rw[oC],by rw[<-oC];exact M,by rw[<-oC];exact f,.inr ⟨_,0,_,_,rfl,ae,?_,λi x hx=>?_⟩⟩
  .show 0+(kJ s).length*1<=_;rw[<-oC];unfold bytesRow;rw[kXd,cy,jKo,Array.size_map];show 0+s.data.size*1<=_;omega
  have v:i<(kJ s).length:=(ff.1 hx).1;show(((bytesRow s cap).toList.drop (0+i*1)).take 1)=_;unfold bytesRow;apply yr;intro j;rw[qH,rB];by_cases a:j<1
  .rw[if_pos a];have F:j=0:=by omega
   subst F;rw[kXd,kQa (by rw[jKo,Array.size_map];have:i<s.data.toList.length:=v;rw[jKo]at this;omega)];have D:s.data.toList[i]? =some x:=hx;simp only[Array.toList_map,kS,tT,kQt,jKp,D,Option.map_some];rfl
  rw[if_neg a];rw[yo (by simp;omega)]
 have:=bT.new (h:=h) (w:=w.drew) b (.cells (bytesRow s cap) 5 ((bytesRow s cap).size,(bytesRow s cap).size+1));exact⟨this.os,this.tape,this.output,this.size,this.Ee,this.frame⟩
theorem gKM{r:Dy}(q:Hc h p r)(b:∀h',Kp [p] h h'->Hc h' p (nR 8 r).2->k (.int .i64 (nR 8 r).1) h'):
 Ct 258 [.zP p] h k:=by
 refine cg eXj Tryz.func258 λA hA=>?_;cbv;refine Jg (n:=8) q ⟨rfl⟩ (by decide) (λa c d=>?_);have:=b a c d;generalize nR 8 r=D at *;cbv;exact this
theorem eKe{r:Dy}(q:Hc h p r)(b:∀h',Kp [p] h h'->Hc h' p (nR 1 r).2->k (.int .i64 (nR 1 r).1) h'):
 Ct 142 [.zP p] h k:=by
 refine cg eJd Tryz.func142 λA hA=>?_;cbv;refine Jg (n:=1) q ⟨rfl⟩ (by decide) (λa c d=>?_);have:=b a c d;generalize nR 1 r=D at *;cbv;exact this
def Hs(r:Dy):Bs×Dy:=jP (nR 2 r).1.toNat (nR 2 r).2
theorem Xm(r:Dy):aZ (nR 2 r).1 (nR 2 r).1.toNat/\(nR 2 r).1.toNat<65536:=by
 have b:=Fi (jP 2 r).1;have h:=Hu 2 r;have c:256^(jP 2 r).1.length<=256^2:=Nat.pow_le_pow_right (by omega) h;have a:(nR 2 r).1=(nf (jP 2 r).1:Int):=by show IntKind.i64.wrap _=_;rw[IntWalk.i64_in _ (by omega)]
 rw[a];exact⟨⟨by omega⟩,by omega⟩
theorem dKj{r:Dy}(q:Hc h p r)(a:∀h',Kp [p] h h'->Hc h' p (Hs r).2->k (.string (strOf (Hs r).1)) h'):
 Ct 263 [.zP p] h k:=by
 refine cg eXe Tryz.func263 λA hA=>?_;cbv;refine Jg (n:=2) q ⟨rfl⟩ (by decide) (λu f i=>?_);have e:=(Xm r).1;have a:∀h',Kp [p] h h'->Hc h' p (jP (nR 2 r).1.toNat (nR 2 r).2).2->k (.string (strOf (jP (nR 2 r).1.toNat (nR 2 r).2).1)) h':=a;generalize nR 2 r=D at *;obtain⟨z,o⟩:=D;generalize z.toNat=n at *;cbv;refine VT i e (λd b m c g s2 j=>?_);have Y:=a d (f.trans g) j;generalize jP n o=D at *;obtain⟨l,v⟩:=D;generalize s:strOf l=t at *;cbv;refine rh s2 ?_;rw[s];cbv;exact Y
def YZ(r:Dy):Int:=if r.e=0/\r.b≠[]then 9 else r.e
theorem gKO{r:Dy}(q:Hc h p r)(a:k (.int .i64 (YZ r)) h):
 Ct 147 [.zP p] h k:=by
 obtain⟨A,hA⟩:=Ar.ex;obtain⟨bb,m,c,d,g,s,hd⟩:=q.out;have l:=s.len;have i:A .aN .eql r.e 0=decide (r.e=0):=au A ..;have j:A .aN .gtr (A .nat m) 0=decide (r.b≠[]):=by
  rw[bC A,hA.nat];refine decide_eq_decide.2 ?_;rw[rz,l];constructor
  .intro h e;rw[e]at h;simp at h
  intro h;have:=jKF.2 h;omega
 refine fz eJa A Tryz.func147 ?_;cbv;rw[av A];refine cr g ?_;cbv;rw[i];by_cases f:r.e=0
 .rw[ak f];cbv;rw[av A];refine cr g ?_;cbv;rw[j];by_cases b:r.b≠[]
  .rw[show YZ r=9 from if_pos ⟨f,b⟩]at a;rw[ak b];cbv;exact a
  rw[show YZ r=r.e from if_neg (λg=>b g.2)]at a;rw[bn b];cbv;rw[av A];refine cr g ?_;cbv;exact a
 rw[show YZ r=r.e from if_neg (λg=>f g.1)]at a;rw[bn f];cbv;rw[av A];refine cr g ?_;cbv;exact a
def fQV:List Nat:=[5,100,211,210,224]
def Dd:Sh Bs where
 n:=1
 R h cs xs:=∃v,cs=[v]/\∃e∈fQV,Sl e cj h v xs
 len:=by rintro h cs x ⟨v,rfl,-⟩;rfl
 one:=by rintro h cs x ⟨v,rfl,e,-,q⟩;obtain⟨b,cap,rfl,-⟩:=q.out;rfl
 tys:=fQV
 mono:=by rintro h h' cs x hl ⟨v,rfl,e,he,q⟩;exact⟨v,rfl,e,he,q.mono (hl.sub λt ht=>by simp[cj]at ht;rw[ht];exact he)⟩
theorem eJ{v:Value}{xs:Bs}(q:Sl e cj h v xs)(a:e∈fQV:=by decide):Dd.R h [v] xs:=⟨v,rfl,e,a,q⟩
theorem dJr(d:aZ z m)(j:m<=2^38):
 Ct 330 [.slice none 0 0,.int .i64 z] h (λv h'=>Le h h'/\∃b c',v=.slice b 0 c'/\bt 5 cj h h' (.slice b 0 c') ([]:Bs)):=by
 obtain⟨A,hA⟩:=Ar.ex;have h0:aZ (A .nat 0) 0:=aZ.nat 0;have a:=d.sub (A:=A) (h0.sub (A:=A) h0 (by omega) (by omega)) (by omega) (by omega);simp only[jKW,GD]at a;refine fz dKW A Tryz.func330 ?_;cbv;rw[d.yW (A:=A)];cbv;generalize e:A .aN .gtr (A .aT .sub .i64 z (A .aT .sub .i64 (A .nat 0) (A .nat 0))) 0=u;generalize f:A .aT .sub .i64 z (A .aT .sub .i64 (A .nat 0) (A .nat 0))=w at a e;rw[bC A]at e;cases u with
 |true=>
  have p:=lA e;have D:0<m:=by have:=a.eq;omega
  cbv;have x:(0:Int)<=A .nat 0/\A .nat 0<=((0:Nat):Int):=by have:=h0.eq;omega
  refine⟨x,?_⟩;cbv;refine⟨wK a (by omega) (by decide),?_⟩;cbv;rw[dy (A:=A) a,dy (A:=A) h0];refine oJ (s:=cj) (xs:=([]:Bs)) Sl.nil (by omega) rfl (by decide) (by omega) rfl rfl (λn c g C l i o=>?_);rw[tT];have y:(0:Int)<=A .nat 0/\A .nat 0<=((c:Nat):Int):=by have:=h0.eq;omega
  cbv;refine⟨y,?_⟩;cbv;rw[dy (A:=A) h0,wH (A:=A)];exact⟨l,_,_,rfl,o.buf C rfl⟩
 |false=>cbv;exact⟨Le.refl _,_,_,rfl,bt.nil⟩
theorem Ba{L:List (Bs)}(q:Sl 176 Dd h (.slice b n c) L)(S:L.flatten.length<=2^38)(r:∀h' o n' c',Le h h'->bt 5 cj h h' (.slice o n' c') L.flatten->k (.slice o n' c') h'):
 Ct 249 [.slice b n c] h k:=by
 obtain⟨E,J⟩:∃E,E=k:=⟨_,rfl⟩;rw[<-J];have B:=r;rw[<-J]at B;clear r;have D:=q.len;obtain⟨kW,gZ⟩:=q.bound;refine cg eXr Tryz.func249 λA hA=>?_;cbv;refine aX.go (G:=Int×Int) (λg=>[(11,.v (.int .i64 g.1)),(3,.v (.int .i64 g.2))]) (λ_=>[])
  (λk g h'=>∃i:Nat,aZ g.1 i/\k=n-i/\i<=n/\h'=h/\aZ g.2 (L.take i).flatten.length) n (0,0) ⟨?_,?_,?_⟩ ⟨0,⟨rfl⟩,by omega,by omega,rfl,⟨rfl⟩⟩ ?_
 .cbv
 .cbv
 .cbv
 intro k g h' I;cbv;obtain⟨i,a,r,R,rfl,j⟩:=I;refine ba (λd=>?_) (λd=>?_)
 .have U:=a.lt d;clear d;cbv;obtain⟨x,hx⟩:=cB L i;refine⟨⟨q.bp,a.ix U⟩,?_⟩;cbv;refine q.load hx a.eq (λcs t=>?_);obtain⟨v,rfl,e1,N,f⟩:=t;obtain⟨u,s,y,rfl⟩:=f.form;have F:=f.len;have l:=xC L (i+1);rw[gX hx,cy,<-F]at l;have H:=j.add (A:=A) (aZ.nat (A:=A) s) (by omega);have K:=gX hx;cbv;rw[H.yW (A:=A)];cbv;refine⟨n-(i+1),(_,A .aT .add .i64 g.2 (A .nat s)),by omega,by constructor<;>cbv,i+1,a.succ (A:=A),rfl,by omega,rfl,?_⟩
  .rw[K,cy,<-F];exact H
 have V:=a.ge d;have fC:i=n:=by omega
 rw[ie (by omega)]at j;obtain⟨z,w⟩:=g;have j:aZ w L.flatten.length:=j;cbv;refine(dJr j S).mono (λv h1 hR=>?_);obtain⟨s,u,y,rfl,e⟩:=hR;cbv;refine aX.go (G:=Int×Option Addr×Nat×Nat) (λg=>[(27,.v (.int .i64 g.1)),(6,.v (.slice g.2.1 g.2.2.1 g.2.2.2))]) (λ_=>[])
  (λk g p=>∃i:Nat,aZ g.1 i/\k=n-i/\i<=n/\Le h' p/\bt 5 cj h' p (.slice g.2.1 g.2.2.1 g.2.2.2) (L.take i).flatten) n (0,u,0,y) ⟨?_,?_,?_⟩ ⟨0,⟨rfl⟩,by omega,by omega,s,e⟩ ?_
 .cbv
 .cbv
 .cbv
 intro k g p I;cbv;obtain⟨i,a,r,R,l,e⟩:=I;obtain⟨z,P,C,Q⟩:=g;have a:aZ z i:=a;have e:bt 5 cj h' p (.slice P C Q) (L.take i).flatten:=e;refine ba (λd=>?_) (λd=>?_)
 .have U:=a.lt d;clear d;cbv;obtain⟨x,hx⟩:=cB L i;refine⟨⟨q.bp,a.ix U⟩,?_⟩;cbv;refine(q.mono (l.t _)).load hx a.eq (λcs t=>?_);obtain⟨v,rfl,e1,N,f⟩:=t;obtain⟨Y,l2,Z,rfl⟩:=f.form;have W:=f.len;have M:C=(L.take i).flatten.length:=e.sl.len;have O:=xC L (i+1);have K:=gX hx;rw[K,cy,<-W,<-M]at O;cbv;refine e.app f (by decide) rfl (by decide) (by omega) l (λm o c' h3 hm T t3 k3 X=>?_);cbv;refine⟨n-(i+1),(_,o,m,c'),by omega,by constructor<;>cbv,i+1,a.succ (A:=A),rfl,by omega,T,?_⟩
  .rw[K];exact X
 have V:=a.ge d;cbv;rw[ie (by omega)]at e;exact B _ _ _ _ l e
theorem Jm(c:s.n=1)(d:h n=zcL e cs)(hl:cs.length=xs.length)(hx:xs.length<=2^40)(r:∀(i:Nat) (v:Value) (x:a),cs[i]? =some v->xs[i]? =some x->s.R h [v] x)(g:m=xs.length):Sl e s h (.slice (zsA n) m m) xs:=by
 subst g;refine Sl.fresh d ⟨by rw[c];omega,λi x hx=>?_⟩ hx (kB _);have b:i<cs.length:=by rw[hl];exact(ff.1 hx).1
 have f:cs[i]? =some cs[i]:=by simp[b]
 have:=r i _ x f hx;rw[c,tT,jKp,show(cs.drop i).take 1=[cs[i]]from by rw[Rs b];rfl]
 exact this
def u8(n:Int):UInt8:=UInt8.ofNat (n % 256).toNat
theorem kQ[hA:bI A](n:Int):cj.R h [.int .u8 (A .conv .u8 n)] (u8 n):=by
 show [Value.int .u8 (A .conv .u8 n)]=[.int .u8 ((u8 n).toNat:Int)];rw[hA.conv];have a:IntKind.u8.wrap n=n % 256:=IntKind.wrap_u8 n;have b:((u8 n).toNat:Int)=n % 256:=by unfold u8;rw[kXz];omega
 show [Value.int .u8 (IntKind.u8.wrap n)]=_;rw[a,b]
theorem pf{l:Bs}(q:Sl 5 cj h (.slice b m c) l)(C:m<=2^37)(z:Int)(u:∀h' d n' c',Le h h'->bt 5 cj h h' (.slice d n' c') (l++[u8 z])->k (.slice d n' c') h'):
 Ct 130 [.slice b m c,.int .i64 z] h k:=by
 obtain⟨A,hA⟩:=Ar.ex;have e:=q.len;have v:=kQ (A:=A) (h:=h) z;refine fz eJo A Tryz.func130 ?_;cbv;intro x i o e1;have f:Le h i:=by rw[e1];exact Le.set o
 have p:=(congrFun e1 x).trans ae;cbv;intro y t U g;have a:Le i t:=by rw[g];exact Le.set U
 have r:=(congrFun g y).trans ae;have j:([l,[u8 z]]:List Bs).flatten=l++[u8 z]:=by simp
 cbv;refine Ba (L:=[l,[u8 z]]) (oN (s:=Dd) rfl r (eJ (q.mono ((f.trans a).t _))) (eJ (bf (s:=cj) (a _ _ p) v))) (by rw[j,cy,<-e,qA];omega) (λB d n' c' w n=>?_);rw[j]at n;cbv;exact u _ _ _ _ ((f.trans a).trans w) (n.base (f.trans a))
def iC(n:Int)(k:Nat):UInt8:=u8 (n % 18446744073709551616 / (2^(8*k)))
def cF(n:Int):Bs:=(List.range 8).map (iC n)
theorem bY(n:Int):(cF n).length=8:=rfl
theorem tP(f:Nat->a)(h:i<n):((List.range n).map f).take (i+1)=((List.range n).map f).take i++[f i]:=by rw[qM];congr 1;simp[h]
theorem pk(n:Int):IntKind.u64.wrap n=n % 18446744073709551616:=by simp[IntKind.wrap,IntKind.bits,IntKind.signed]
theorem KP[hA:bI A](n:Int)(d:aZ z i)(e:i<8):cj.R h [.int .u8 (A .conv .u8 (A .aT .shr .u64 (A .conv .u64 n) (A .aT .mul .i64 8 z)))] (iC n i):=by
 have a:A .aT .mul .i64 8 z=((8*i:Nat):Int):=by rw[hA.aT,d.eq];show IntKind.i64.wrap (8*(i:Int))=_;rw[IntWalk.i64_in _ (by omega)];omega
 have b:A .conv .u64 n=n % 18446744073709551616:=by rw[hA.conv];exact pk n
 have c:A .aT .shr .u64 (A .conv .u64 n) (A .aT .mul .i64 8 z)=n % 18446744073709551616 / (2^(8*i)):=by rw[a,b,hA.aT];show(n % 18446744073709551616).fdiv (2^(min ((8*i:Nat):Int).toNat 64))=_;rw[show min ((8*i:Nat):Int).toNat 64=8*i by omega,jKN _ (Int.le_of_lt (Int.pow_pos (by decide)))]
 rw[c];exact kQ _
theorem Nc{l:Bs}(q:Sl e1 cj h (.slice b m c) l)(hm:m<=2^37)(n:Int)(P:∀h' a n' c',Le h h'->bt 5 cj h h' (.slice a n' c') (l++cF n)->k (.slice a n' c') h'):
 Ct 131 [.slice b m c,.int .i64 n] h k:=by
 have j:=q.len;obtain⟨J,D⟩:∃J:Nat->(Int×Option Addr×Nat×Nat)->ad->Prop,∀w g h',J w g h'=(∃i,aZ g.1 i/\i<=8/\w=8-i/\Le h h'/\bt 5 cj h h' (.slice g.2.1 g.2.2.1 g.2.2.2) (l++(cF n).take i)):=⟨_,λ_ _ _=>rfl⟩;refine cg eJn Tryz.func131 λA hA=>?_;cbv;refine Gi q (λM x B S q1=>?_);have u:J 8 (0,x,m,B) M:=by rw[D];exact⟨0,⟨rfl⟩,by omega,rfl,S,by simpa using q1⟩
 cbv;refine aX.go (G:=Int×Option Addr×Nat×Nat) (λg=>[(9,.v (.int .i64 g.1)),(5,.v (.slice g.2.1 g.2.2.1 g.2.2.2))]) (λ_=>[]) (λw g h'=>J w g h') 8 (0,x,m,B) (by constructor<;>cbv) u ?_
 intro w g t I;rw[D]at I;cbv;obtain⟨z,H,L,K⟩:=g;obtain⟨i,e,Z,hw,v,f⟩:=I;have e:aZ z i:=e;have f:bt 5 cj h t (.slice H L K) (l++(cF n).take i):=f;have nq:=f.sl.len;rw[cy,eA,bY,<-j]at nq;have F:A .aN .lss z 8=decide (i<8):=by rw[aR A,e.eq];exact decide_eq_decide.2 (by omega)
 have o:i<8->0<=A .aT .mul .i64 8 z:=λd=>by
  rw[hA.aT,e.eq];show 0<=IntKind.i64.wrap (8*(i:Int));rw[IntWalk.i64_in _ (by omega)];omega
 have hR:=λd:i<8=>KP (A:=A) (h:=t) n e d;have r:=e.succ (A:=A);have T:=λd:i<8=>tP (iC n) d;have T:i<8->(cF n).take (i+1)=(cF n).take i++[iC n i]:=T;have X:∀h' m' a c',i<8->Le h h'->bt 5 cj h h' (.slice a m' c') (l++(cF n).take i++[iC n i])->J (8-(i+1)) (A .aT .add .i64 z 1,a,m',c') h':=λh' m' a c' d R q'=>by
  rw[D];exact⟨i+1,r,d,rfl,R,by rw[T d,<-ym];exact q'⟩
 rw[F];by_cases U:i<8
 .have hR:=hR U;have o:=o U;generalize iC n i=y at *;rw[ak U];clear D T u r;cbv;refine⟨o,?_⟩;cbv;intro Y N E p;have C:Le t N:=by rw[p];exact Le.set E
  have q3:=bf (s:=cj) ((congrFun p Y).trans ae) hR;clear p;cbv;refine(f.mono (C.t _)).app q3 (by decide) rfl (by decide) (by omega) (v.trans C) (λm' a c' O GS V t4 k4 q4=>?_);have Q:=X O m' a c' U V q4;clear X;cbv;refine⟨8-(i+1),(_,a,m',c'),by omega,by constructor<;>cbv,Q⟩
 rw[bn U];have hi:i=8:=by omega
 rw[ie (by rw[bY];omega)]at f;clear D T u r X hR o;cbv;refine Gi f.sl (λh5 b5 c5 W q5=>?_);cbv;exact P _ _ _ _ (v.trans W) (q5.base v)
def fW(s:ByteArray):Bs:=(kJ s).take 65535
def gM(s:ByteArray):Bs:=[u8 (min s.size 65535:Nat),u8 ((min s.size 65535:Nat) / 256:Nat)]
theorem Bj{e1:Nat}{l:Bs}(q:Sl 5 cj h (.slice b m c) l)(hm:m<=2^37)(s:ByteArray)(hs:s.size<=2^40)(r:∀h' a n' c',Le h h'->bt 5 cj h h' (.slice a n' c') (l++(gM s++fW s))->k (.slice a n' c') h'):
 Ct 132 [.slice b m c,.string s] h k:=by
 obtain⟨A,hA⟩:=Ar.ex;have u:=q.len;obtain⟨j,p⟩:∃j,j=min s.size 65535:=⟨_,rfl⟩;have R:A .my (A .lC s) 65535=(j:Int):=by
  have:A .my (A .lC s) 65535=min (s.size:Int) 65535:=by rw[hA.my,hA.lC]
  omega
 obtain⟨t,f⟩:∃t,t=A .sub s 0 (j:Int):=⟨_,rfl⟩;have G:t=s.extract 0 j:=by rw[f,hA.sub];rfl
 have z:t.size=j:=by rw[G,ByteArray.size_extract];omega
 have S:kJ t=fW s:=by rw[G];unfold fW kJ;simp only[kXk,kXm];rw[p];simp only[List.extract,jKW,kQi];show List.take (min s.data.size 65535) _=_;rw[<-jKo,Nat.min_comm,<-List.take_eq_take_min]
 have V:A .lC t=(j:Int):=by rw[hA.lC];show(t.size:Int)=_;rw[z]
 have C:0<=A .my (A .lC s) 65535/\A .my (A .lC s) 65535<=(s.size:Int):=by rw[R];omega
 have d:t.size<=2^40:=by omega
 have N:A .sub s 0 (A .my (A .lC s) 65535)=t:=by rw[R,f]
 have J:=kQ (A:=A) (h:=h) (j:Int);have X:=kQ (A:=A) (h:=h) ((j / 256:Nat):Int);have K:A .aT .shr .i64 (j:Int) 8=((j / 256:Nat):Int):=by rw[hA.aT];show((j:Int)).fdiv (2^8)=_;rw[jKN _ (by decide)];omega
 have v:gM s=[u8 (j:Int),u8 ((j / 256:Nat):Int)]:=by unfold gM;rw[<-p]
 rw[v]at r;clear G f v;refine fz eJm A Tryz.func132 ?_;cbv;refine⟨C,?_⟩;cbv;rw[N];refine⟨by decide,?_⟩;cbv;rw[V,K];intro x i D e1;have O:Le h i:=by rw[e1];exact Le.set D
 have E:=(congrFun e1 x).trans ae;clear e1;cbv;refine wY d (λn2 W m2 H zN Y w U=>?_);cbv;intro Q I B e;have g:Le H I:=by rw[e];exact Le.set B
 have F:=(congrFun e Q).trans ae;have T:Sl 5 cj i (.slice (zsA x) 2 2) [u8 (j:Int),u8 ((j / 256:Nat):Int)]:=oN (s:=cj) rfl E J X;have n:=(O.trans w).trans g;have o:([l,[u8 (j:Int),u8 ((j / 256:Nat):Int)],kJ t]:List Bs).flatten=l++([u8 (j:Int),u8 ((j / 256:Nat):Int)]++fW s):=by rw[S];simp
 have M:(l++([u8 (j:Int),u8 ((j / 256:Nat):Int)]++fW s)).length<=2^38:=by
  have:(fW s).length<=65535:=by unfold fW;rw[eA];omega
  simp only[cy,wS,yk];omega
 clear e;cbv;refine Ba (L:=[l,[u8 (j:Int),u8 ((j / 256:Nat):Int)],kJ t]) (ke (s:=Dd) rfl F (eJ (q.mono (n.t _))) (eJ (T.mono ((w.trans g).t _))) (eJ (U.mono (g.t _)))) (by rw[o];exact M) (λZ a n' c' P y=>?_);rw[o]at y;cbv;exact r _ _ _ _ (n.trans P) (y.base n)
abbrev St:=Option Bs
def tI(r:Dy):St:=if r.e=0 then some r.b else none
def eP(n:Nat):St->Bs×St
 |none=>([],none)
 |some b=>if n<=b.length then(b.take n,some (b.drop n))else([],none)
theorem BK(n:Nat)(r:Dy):(jP n r).1=(eP n (tI r)).1/\tI (jP n r).2=(eP n (tI r)).2:=by
 unfold jP tI rJ;by_cases h:r.e=0
 .rw[if_pos h];by_cases a:n>r.b.length
  .rw[if_pos a,if_pos ⟨by decide,h⟩];simp only[eP];rw[if_neg (by omega)];exact⟨rfl,rfl⟩
  rw[if_neg a,if_neg (λg=>g h)];simp only[eP];rw[if_pos (by omega)];exact⟨rfl,rfl⟩
 rw[if_neg h];by_cases a:n>r.b.length
 .rw[if_pos a,if_neg (λg=>h g.2)];exact⟨rfl,if_neg h⟩
 rw[if_neg a,if_pos h];exact⟨rfl,if_neg h⟩
def aO(n:Nat)(s:St):Nat×St:=(nf (eP n s).1,(eP n s).2)
def bm(s:St):Bs×St:=eP (aO 2 s).1 (aO 2 s).2
def FV(e:Int)(s:St):St:=if e=0 then s else none
theorem sy(n:Nat)(s:St):(eP n s).1.length<=n:=by
 cases s with
 |none=>simp[eP]
 |some b=>
  simp only[eP];split
  .simp only[eA];omega
  simp
theorem xi(n:Nat)(s:St):(aO n s).1<256^n:=by have h:=Fi (eP n s).1;exact Nat.lt_of_lt_of_le h (Nat.pow_le_pow_right (by omega) (sy n s))
theorem Ss(x:Int)(r:Dy):tI (rJ x r)=FV x (tI r):=by
 by_cases hx:x=0
 .have:rJ x r=r:=if_neg (λg=>g.1 hx);rw[this];exact(if_pos hx).symm
 have a:FV x (tI r)=none:=if_neg hx;rw[a];by_cases h:r.e=0
 .have:rJ x r=⟨r.b,x⟩:=if_pos ⟨hx,h⟩;rw[this];exact if_neg hx
 have:rJ x r=r:=if_neg (λg=>h g.2);rw[this];exact if_neg h
structure gJ(h:ad)(p:Nat)(s:St):Prop where
 out:∃r,Hc h p r/\tI r=s
theorem gJ.le{s:St}(q:gJ h p s)(l:Le h h'):gJ h' p s:=by obtain⟨r,a,b⟩:=q.out;exact⟨r,a.le l,b⟩
theorem gJ.lt{s:St}(q:gJ h p s)(k:Kp [p] h h')(e:411∉tys):cO tys h h':=by obtain⟨r,a,b⟩:=q.out;exact a.lt k e
theorem UE{xs:Bs}{len:Nat}(q:Sl e1 cj h (.slice b len cap) xs)
 (a:∀h' p,h p=none->Le h h'->gJ h' p (some xs)->k (.zP p) h'):
 Ct 141 [.slice b len cap] h k:=
 gKK q λh' p h0 l c=>a h' p h0 l ⟨_,c,rfl⟩
theorem RJ{s:St}(q:gJ h p s)(x:Int)(a:∀h',Kp [p] h h'->gJ h' p (FV x s)->k (.tuple #[]) h'):
 Ct 336 [.zP p,.int .i64 x] h k:=by
 obtain⟨r,c,rfl⟩:=q.out;exact bZt c x λh' b d=>a h' b ⟨_,d,Ss x r⟩
theorem BX(r:Dy):(nR n r).1=IntKind.i64.wrap ((aO n (tI r)).1:Int)/\tI (nR n r).2=(aO n (tI r)).2:=by have:=BK n r;exact⟨by unfold nR aO;rw[this.1],this.2⟩
theorem bQm{s:St}(q:gJ h p s)(a:∀h',Kp [p] h h'->gJ h' p (aO 8 s).2->k (.int .i64 (IntKind.i64.wrap ((aO 8 s).1:Int))) h'):
 Ct 258 [.zP p] h k:=by
 obtain⟨r,c,rfl⟩:=q.out;have:=BX (n:=8) r;exact gKM c λh' b d=>this.1 ▸ a h' b ⟨_,d,this.2⟩
theorem eKd{s:St}(q:gJ h p s)(c:∀h',Kp [p] h h'->gJ h' p (aO 1 s).2->k (.int .i64 ((aO 1 s).1:Int)) h'):
 Ct 142 [.zP p] h k:=by
 obtain⟨r,e,rfl⟩:=q.out;have a:=BX (n:=1) r;have g:=xi 1 (tI r);have b:(nR 1 r).1=((aO 1 (tI r)).1:Int):=by rw[a.1,IntWalk.i64_in _ (by omega)]
 exact eKe e λh' d f=>b ▸ c h' d ⟨_,f,a.2⟩
theorem dKi{s:St}(q:gJ h p s)(d:∀h',Kp [p] h h'->gJ h' p (bm s).2->k (.string (strOf (bm s).1)) h'):
 Ct 263 [.zP p] h k:=by
 obtain⟨r,g,rfl⟩:=q.out;have c:=BX (n:=2) r;have j:=xi 2 (tI r);have a:(nR 2 r).1.toNat=(aO 2 (tI r)).1:=by rw[c.1,IntWalk.i64_in _ (by omega)];omega
 have b:=BK (nR 2 r).1.toNat (nR 2 r).2;rw[a,c.2]at b;have e1:(Hs r).1=(bm (tI r)).1:=by unfold Hs;rw[a];exact b.1
 have e:tI (Hs r).2=(bm (tI r)).2:=by unfold Hs;rw[a];exact b.2
 exact dKj g λh' f i=>e1 ▸ d h' f ⟨_,i,e⟩
theorem Nd{s:St}(q:gJ h p s)(c:∀e:Int,(e=0↔s=some [])->k (.int .i64 e) h):
 Ct 147 [.zP p] h k:=by
 obtain⟨r,d,rfl⟩:=q.out;refine gKO d (c _ ?_);unfold YZ tI;by_cases a:r.e=0
 .by_cases b:r.b=[]
  .rw[if_neg (λg=>g.2 b),if_pos a];simp[a,b]
  rw[if_pos ⟨a,b⟩,if_pos a];simp[b]
 rw[if_neg (λg=>a g.1),if_neg a];simp[a]
end Go.S
namespace Go.Sx
variable {h h':ad}
def dX(ex:List Nat)(h h':ad):Prop:=∀b o,h b=some o->(∀c e fr,o=.cells c e fr->e∉ex)->h' b=some o
theorem Le.x(l:Le h h')(ex:List Nat):dX ex h h':=λb o a _=>l b o a
theorem dX.trans{ex:List Nat}{a b c:ad}(x:dX ex a b)(y:dX ex b c):dX ex a c:=λk o q n=>y k o (x k o q n) n
theorem dX.refl(ex:List Nat)(h:ad):dX ex h h:=λ_ _ x _=>x
theorem dX.t{ex:List Nat}(x:dX ex h h'){tys:List Nat}(hd:∀t∈tys,t∉ex):cO tys h h':=λb c e fr m a=>x b _ a (λc' f K d=>by cases d;exact hd _ m)
theorem Kp.x{ex:List Nat}{bs:List Nat}(k:Kp bs h h')(a:∀b∈bs,∀o,h b=some o->∃c e fr,o=.cells c e fr/\e∈ex):dX ex h h':=λb o y S=>by
 by_cases m:b∈bs
 .obtain⟨c,e,fr,rfl,d⟩:=a b m o y;exact absurd d (S _ _ _ rfl)
 exact k b o y m
theorem jy{g:Type}{e:Nat}{s:Sh g}{l:Nat}{A:Ar}[bI A]{bytes:Nat}{z:List Value}{x:g}{k:Value->ad->Prop}(hx:∀h,s.R h z x)(hl:l<=2^40)(j:bytes<=128)
 (d:∀n h',h n=none->Le h h'->cZ e s h' n l (List.replicate l x)->k (.slice (zsA n) l l) h'):
 qf h e (A .nat l) (A .nat l) bytes z k:=by
 have f:=s.len (hx h);have Q:(2:Nat)^40=1099511627776:=rfl;have U:(2:Int)^48=281474976710656:=rfl;rw[bI.nat (A:=A)];refine⟨by simp only[rz];omega,⟨by rw[U];simp only[rz];omega,?_⟩,λn h' e1 a=>?_⟩
 .rw[U];simp only[rz];have:bytes*l<=128*l:=za _ j;have b:((bytes*l:Nat):Int)<=((128*l:Nat):Int):=kXI.2 this;simp only[kXH]at b;omega
 simp only[rz,HH]at a |-;have L:(iJ l z).length=l*s.n:=by rw[fZ,f]
 refine d n h' e1 (by rw[a];exact Le.set e1) ⟨⟨iJ l z,by rw[a,ae],⟨by rw[L];simp,λi y c=>?_⟩,L⟩,by simp,by simpa using hl⟩;have q:i<l:=by have:=(ff.1 c).1;simpa using this
 have O:y=x:=by obtain⟨p,b⟩:=ff.1 c;rw[<-b];simp
 subst O;have key:((iJ l z).drop (0+i*s.n)).take s.n=z:=by
  clear a d L c;rw[tT,<-f];induction i generalizing l with
  |zero=>obtain⟨m,rfl⟩:∃m,l=m+1:=⟨l-1,by omega⟩;rw[Nat.zero_mul,kQi];show(z++iJ m z).take z.length=z;simp
  |succ i o=>obtain⟨m,rfl⟩:∃m,l=m+1:=⟨l-1,by omega⟩;show((z++iJ m z).drop ((i+1)*z.length)).take z.length=z;rw[jKi,kQh,<-jKS,jKX];exact o (by omega) (by omega)
 rw[key];exact hx h'
end Go.Sx
namespace Go.S
open Go.Sx Go.Proofs
variable {n:Int}{i p:Nat}{k:Value->ad->Prop}{h h':ad}
def aQ(b:Bs):List Value:=b.map λx=>.int .u8 (x.toNat:Int)
theorem iN:∀b:Bs,jv (aQ b)=true
 | []=>rfl
 |x::r=>by show jv (_::aQ r)=true;unfold jv;exact iN r
def pq:Sh Bs where
 n:=64
 R _ cs b:=cs=aQ b/\b.length=64
 len:=by rintro h cs b ⟨rfl,hl⟩;simpa[aQ]using hl
 one:=by rintro h cs b ⟨rfl,-⟩;exact iN b
 tys:=[]
 mono:=λ_ q=>q
def Gw:Bs:=List.replicate 64 0
def Sy:Sh (Int×Bs)where
 n:=65
 R _ cs w:=cs=.int .i64 w.1::aQ w.2/\w.2.length=64
 len:=by rintro h cs b ⟨rfl,hl⟩;simpa[aQ]using hl
 one:=by rintro h cs b ⟨rfl,-⟩;unfold jv;exact iN _
 tys:=[]
 mono:=λ_ q=>q
structure Dk where
 left:Int
 dead:Bool
 kept:List Bs
 now:List Bs
 ws:List (Int×Bs)
abbrev dT:List Nat:=[94,211,213]
structure nI(h:ad)(p:Nat)(D:Dk):Prop where
 out:∃kb nb wb wn wc d,h p=zcL 94 [.int .i64 D.left,.int .u32 d,.slice (zsA kb) D.now.length D.now.length,.slice (zsA nb) D.now.length D.now.length,.slice wb wn wc]/\
  cZ 211 pq h kb D.now.length D.kept/\cZ 211 pq h nb D.now.length D.now/\D.kept.length=D.now.length/\kb≠nb/\d=(if D.dead then 1 else 0)/\
  bt 213 Sy (λ_=>none) h (.slice wb wn wc) D.ws/\D.now.length<=4096
theorem nI.lt{D:Dk}(q:nI h p D)(l:cO dT h h'):nI h' p D:=by obtain⟨k,n,c,i,f,d,g,o1,o2,e1,e,a,w,b⟩:=q.out;exact⟨k,n,c,i,f,d,l _ _ _ _ (by decide) g,o1.mono (l.sub),o2.mono (l.sub),e1,e,a,w.mono (l.sub),b⟩
theorem nI.le{D:Dk}(q:nI h p D)(l:Le h h'):nI h' p D:=q.lt (l.t _)
theorem aQm{D:Dk}(q:nI h p D)(a:∀z,aZ z D.now.length->k (.int .i64 z) h):Ct 174 [.zP p] h k:=by obtain⟨A,hA⟩:=Ar.ex;obtain⟨i,n,j,o,l,d,g,o1,o2,e1,e,c,w,f⟩:=q.out;have b:=aZ.nat (A:=A) D.now.length;generalize D.now.length=m at *;refine fz eZD A Tryz.func174 ?_;cbv;rw[av A];refine cr g ?_;cbv;exact a _ b
theorem bZu{D:Dk}(q:nI h p D)(b:k (.bool D.dead) h):Ct 175 [.zP p] h k:=by
 obtain⟨j,n,m,r,o,d,g,o1,o2,e1,c,e,w,f⟩:=q.out;have hd:decide (d≠0)=D.dead:=by rw[e];cases D.dead<;>rfl
 generalize D.dead=t at *;refine cg eZC Tryz.func175 λA hA=>?_;cbv;rw[av A];refine(od (cm g rfl)).mono (λv i hR=>?_);obtain⟨l,rfl,a,rfl⟩:=hR;rw[hd]at a;subst a;cbv;exact b
def fj(D:Dk)(n:Int)(size:Int):Int:=if D.dead then 15 else if n<0\/n>=D.now.length\/size>64 then 1 else 0
theorem MD{D:Dk}(q:nI h p D)(n size:Int)(a:k (.int .i64 (fj D n size)) h):Ct 287 [.zP p,.int .i64 n,.int .i64 size] h k:=by
 obtain⟨A,hA⟩:=Ar.ex;obtain⟨x,y,z,C,B,d,g,o1,o2,e1,o,s,w,u⟩:=q.out;have i:A .aN .lss n 0=decide (n<0):=aR A ..;have f:A .aN .geq n (A .nat D.now.length)=decide (n>=D.now.length):=by rw[cH A,hA.nat];rfl
 have j:A .aN .gtr size 64=decide (size>64):=bC A ..;have P:fj D n size=if D.dead then 15 else if n<0\/n>=D.now.length\/size>64 then 1 else 0:=rfl
 generalize fj D n size=r at *;generalize v:D.now.length=m at *;generalize l:D.dead=t at *;refine fz eQI A Tryz.func287 ?_;cbv;rw[av A];refine bZu q ?_;rw[l];cbv;cases t with
 |true=>have P:r=15:=P;subst P;cbv;exact a
 |false=>
  have P:r=if n<0\/n>=(m:Int)\/size>64 then 1 else 0:=P
  by_cases c:n<0
  .rw[if_pos (.inl c)]at P;subst P;cbv;rw[i,ak c];cbv;exact a
  by_cases b:n>=(m:Int)
  .rw[if_pos (.inr (.inl b))]at P;subst P;rw[ak b]at f;cbv;rw[i,bn c];cbv;rw[av A];refine cr g ?_;cbv;rw[f];cbv;exact a
  rw[bn b]at f;by_cases e:size>64
  .rw[if_pos (.inr (.inr e))]at P;subst P;cbv;rw[i,bn c];cbv;rw[av A];refine cr g ?_;cbv;rw[f];cbv;rw[j,ak e];cbv;exact a
  rw[if_neg (λh=>h.elim c (λh=>h.elim b e))]at P;subst P;cbv;rw[i,bn c];cbv;rw[av A];refine cr g ?_;cbv;rw[f];cbv;rw[j,bn e];cbv;exact a
theorem cZ.elem{A:Ar}[hA:bI A]{e a cap:Nat}{xs:List Bs}(o:cZ e pq h a cap xs){b:Bs}(hx:xs[i]? =some b)(v:n=(i:Int)):Sl e cj h (.slice (some (A .je (zsA a) n 64)) 64 64) b:=by
 obtain⟨c,g,r,w⟩:=o.out;have s:=r.2 i b hx;obtain⟨d,f⟩:=s;have t:A .je (zsA a) n 64=⟨a,i*64,none⟩:=by have:A .je=Sx.je:=hA.je;rw[this,v];simp[je,cI]
 rw[t];have k:=r.1;have u:i<xs.length:=(ff.1 hx).1;have p:i*64+64<=c.length:=by have:(i+1)*64<=xs.length*64:=za _ u;have k:0+xs.length*64<=c.length:=k;omega
 refine⟨_,64,by rw[f],by rw[f];exact kB _,by rw[f];omega,.inr ⟨a,i*64,_,_,rfl,g,?_,λj x l=>?_⟩⟩
 .show i*64+b.length*1<=c.length;omega
 have Y:j<64:=by have:=(ff.1 l).1;omega
 show((c.drop (i*64+j*1)).take 1)=_;have d:(c.drop (0+i*64)).take 64=aQ b:=d;rw[tT]at d;apply yr;intro m;rw[qH,rB];by_cases q:m<1
 .have D:m=0:=by omega
  subst D;rw[if_pos q];have:=congrArg (λz=>z[j]?) d;simp only[qH,rB,if_pos Y,aQ,kS,l,Option.map_some]at this;rw[show i*64+j*1+0=i*64+j by omega,this];rfl
 rw[if_neg q];rw[yo (by simp;omega)]
def dp(D:Dk)(n:Int):Bs:=(D.now[n.toNat]?).getD []
theorem ZZ{D:Dk}(q:nI h p D)(n:Int)
 (M:fj D n 0≠0->k (.tuple #[.slice none 0 0,.int .i64 (fj D n 0)]) h)
 (G:fj D n 0=0->∀h' b c,Le h h'->(dp D n).length=64->bt 5 cj h h' (.slice b 64 c) (dp D n)->k (.tuple #[.slice b 64 c,.int .i64 0]) h'):
 Ct 172 [.zP p,.int .i64 n] h k:=by
 obtain⟨A,hA⟩:=Ar.ex;obtain⟨K,s,L,O,N,d,g,o1,o2,e1,F,H,w,I⟩:=q.out;have z:A .aN .neq (fj D n 0) 0=decide (fj D n 0≠0):=az A ..;have f:fj D n 0=0->aZ n n.toNat/\n.toNat<D.now.length:=λa=>by
  unfold fj at a;split at a
  .cases a
  split at a
  .cases a
  rename_i o;have e:¬n<0:=λg=>o (.inl g);have l:¬n>=(D.now.length:Int):=λg=>o (.inr (.inl g));exact⟨⟨by omega⟩,by omega⟩
 have J:fj D n 0=0->Sl 211 cj h (.slice (some (A .je (zsA s) n 64)) 64 64) (dp D n):=λa=>by
  obtain⟨e,l⟩:=f a;obtain⟨x,hx⟩:=aJ (xs:=D.now) (i:=n.toNat) l;have:dp D n=x:=by unfold dp;rw[hx];rfl
  rw[this];exact cZ.elem o2 hx e.eq
 have y:fj D n 0=0->True/\0<=n/\n<(D.now.length:Int):=λa=>⟨trivial,(f a).1.ix (f a).2⟩;have y:fj D n 0=0->(some (⟨s,0,none⟩:Addr)).isSome=true/\0<=n/\n<(D.now.length:Int):=λa=>⟨rfl,(y a).2⟩;clear f;generalize D.now.length=m at *;refine fz eZF A Tryz.func172 ?_;cbv;refine MD q n 0 ?_;generalize fj D n 0=r at *;cbv;rw[z];by_cases j:r≠0
 .rw[ak j];have B:=M j;cbv;exact B
 have t:r=0:=by omega
 have J:=J t;have G:=G t;generalize dp D n=b at *;rw[bn j];cbv;rw[av A];refine cr g ?_;cbv;refine⟨y t,?_⟩;cbv;refine Gi J (λe u v C E=>?_);have:=G e u v C J.len.symm E;cbv;exact this
abbrev W:=BitVec 32
structure lp(z:Int)(x:W):Prop where
 eq:z=(x.toNat:Int)
section
variable {A:Ar}[hA:bI A]{z w:Int}{x y:W}
theorem yM(n:Int):IntKind.u32.wrap n=n % 4294967296:=by simp[IntKind.wrap,IntKind.bits,IntKind.signed]
theorem tF(x:W):BitVec.ofInt 32 (x.toNat:Int)=x:=by apply BitVec.eq_of_toNat_eq;rw[BitVec.toNat_ofInt];have:=x.isLt;omega
theorem PK(x:W):((x.toNat:Int)) % 4294967296=x.toNat:=by have:=x.isLt;omega
theorem lp.add(h:lp z x)(g:lp w y):lp (A .aT .add .u32 z w) (x+y):=⟨by
 rw[hA.aT,h.eq,g.eq];show IntKind.u32.wrap _=_;rw[yM,BitVec.toNat_add];omega⟩
theorem lp.xor(h:lp z x)(g:lp w y):lp (A .aT .xor .u32 z w) (x^^^y):=⟨by
 rw[hA.aT,h.eq,g.eq];show IntKind.u32.wrap (((BitVec.ofInt 32 (x.toNat:Int)^^^BitVec.ofInt 32 (y.toNat:Int)).toNat:Nat):Int)=_;rw[tF,tF,yM,PK]⟩
theorem lp.and(h:lp z x)(g:lp w y):lp (A .aT .and .u32 z w) (x&&& y):=⟨by
 rw[hA.aT,h.eq,g.eq];show IntKind.u32.wrap (((BitVec.ofInt 32 (x.toNat:Int)&&& BitVec.ofInt 32 (y.toNat:Int)).toNat:Nat):Int)=_;rw[tF,tF,yM,PK]⟩
theorem lp.or(h:lp z x)(g:lp w y):lp (A .aT .or .u32 z w) (x|||y):=⟨by
 rw[hA.aT,h.eq,g.eq];show IntKind.u32.wrap (((BitVec.ofInt 32 (x.toNat:Int)|||BitVec.ofInt 32 (y.toNat:Int)).toNat:Nat):Int)=_;rw[tF,tF,yM,PK]⟩
theorem lp.not(h:lp z x):lp (A .aT .xor .u32 4294967295 z) (~~~x):=⟨by
 rw[hA.aT,h.eq];show IntKind.u32.wrap (((BitVec.ofInt 32 (4294967295:Int)^^^BitVec.ofInt 32 (x.toNat:Int)).toNat:Nat):Int)=_;rw[tF,yM,PK];have:BitVec.ofInt 32 (4294967295:Int)=BitVec.allOnes 32:=by decide
 rw[this,BitVec.allOnes_xor]⟩
theorem lp.shr(h:lp z x)(a:aZ n i)(b:i<32):lp (A .aT .shr .u32 z n) (x >>> i):=⟨by
 rw[hA.aT,h.eq,a.eq];show((x.toNat:Int)).fdiv (2^(min ((i:Int)).toNat 32))=_;rw[show min ((i:Int)).toNat 32=i by omega,jKN _ (Int.le_of_lt (Int.pow_pos (by decide))),BitVec.toNat_ushiftRight,Nat.shiftRight_eq_div_pow];norm_cast⟩
theorem lp.shl(h:lp z x)(a:aZ n i)(b:i<=32):lp (A .aT .shl .u32 z n) (x <<< i):=⟨by
 rw[hA.aT,h.eq,a.eq];show IntKind.u32.wrap ((x.toNat:Int)*2^(min ((i:Int)).toNat 32))=_;rw[show min ((i:Int)).toNat 32=i by omega,yM,BitVec.toNat_shiftLeft,Nat.shiftLeft_eq];have:(x.toNat:Int)*2^i=((x.toNat*2^i:Nat):Int):=by push_cast;rfl
 rw[this];omega⟩
theorem lp.bQO{v:Int}{b:UInt8}(h:v=(b.toNat:Int)):lp (A .conv .u32 v) (BitVec.ofNat 32 b.toNat):=⟨by
 rw[hA.conv,h];show IntKind.u32.wrap _=_;have:=b.toNat_lt;rw[yM,BitVec.toNat_ofNat];omega⟩
end
def pF:Sh W where
 n:=1
 R _ cs x:=∃z,cs=[.int .u32 z]/\lp z x
 len:=by rintro h cs x ⟨z,rfl,-⟩;rfl
 one:=by rintro h cs x ⟨z,rfl,-⟩;rfl
 tys:=[]
 mono:=λ_ q=>q
def rr(x:W)(n:Nat):W:=x >>> n|||x <<< (32-n)
def fJM(x:W):W:=rr x 7^^^rr x 18^^^x >>> 3
def fJL(x:W):W:=rr x 17^^^rr x 19^^^x >>> 10
def iXi(x:W):W:=rr x 6^^^rr x 11^^^rr x 25
def iXj(x:W):W:=rr x 2^^^rr x 13^^^rr x 22
def jXy(e f g:W):W:=(e&&& f)^^^(~~~e&&& g)
def fKN(a b c:W):W:=(a&&& b)^^^(a&&& c)^^^(b&&& c)
def bw(b:Bs)(i:Nat):W:=BitVec.ofNat 32 (b.getD i 0).toNat
def Vp(b:Bs)(i:Nat):W:=bw b (4*i) <<< 24|||bw b (4*i+1) <<< 16|||bw b (4*i+2) <<< 8|||bw b (4*i+3)
def wF(b:Bs)(i:Nat):W:=
 if i<16 then Vp b i else if 16<=i then wF b (i-16)+fJM (wF b (i-15))+wF b (i-7)+fJL (wF b (i-2))else 0
 termination_by i
 decreasing_by all_goals omega
def GM:List W:=[0x428a2f98#32,0x71374491#32,0xb5c0fbcf#32,0xe9b5dba5#32,0x3956c25b#32,0x59f111f1#32,0x923f82a4#32,0xab1c5ed5#32,
 0xd807aa98#32,0x12835b01#32,0x243185be#32,0x550c7dc3#32,0x72be5d74#32,0x80deb1fe#32,0x9bdc06a7#32,0xc19bf174#32,
 0xe49b69c1#32,0xefbe4786#32,0x0fc19dc6#32,0x240ca1cc#32,0x2de92c6f#32,0x4a7484aa#32,0x5cb0a9dc#32,0x76f988da#32,
 0x983e5152#32,0xa831c66d#32,0xb00327c8#32,0xbf597fc7#32,0xc6e00bf3#32,0xd5a79147#32,0x06ca6351#32,0x14292967#32,
 0x27b70a85#32,0x2e1b2138#32,0x4d2c6dfc#32,0x53380d13#32,0x650a7354#32,0x766a0abb#32,0x81c2c92e#32,0x92722c85#32,
 0xa2bfe8a1#32,0xa81a664b#32,0xc24b8b70#32,0xc76c51a3#32,0xd192e819#32,0xd6990624#32,0xf40e3585#32,0x106aa070#32,
 0x19a4c116#32,0x1e376c08#32,0x2748774c#32,0x34b0bcb5#32,0x391c0cb3#32,0x4ed8aa4a#32,0x5b9cca4f#32,0x682e6ff3#32,
 0x748f82ee#32,0x78a5636f#32,0x84c87814#32,0x8cc70208#32,0x90befffa#32,0xa4506ceb#32,0xbef9a3f7#32,0xc67178f2#32]
structure W8 where
 a:W
 b:W
 c:W
 d:W
 e:W
 f:W
 g:W
 h:W
def W8.l(t:W8):List W:=[t.a,t.b,t.c,t.d,t.e,t.f,t.g,t.h]
def lS:W8:=⟨0x6a09e667#32,0xbb67ae85#32,0x3c6ef372#32,0xa54ff53a#32,0x510e527f#32,0x9b05688c#32,0x1f83d9ab#32,0x5be0cd19#32⟩
def dQg(t:W8)(k w:W):W:=t.h+iXi t.e+jXy t.e t.f t.g+k+w
def fJS(t:W8):W:=iXj t.a+fKN t.a t.b t.c
def bJg(t:W8)(k w:W):W8:=⟨dQg t k w+fJS t,t.a,t.b,t.c,t.d+dQg t k w,t.e,t.f,t.g⟩
def yu(b:Bs)(t:W8):Nat->W8
 |0=>t
 |i+1=>bJg (yu b t i) (GM.getD i 0) (wF b i)
def W8.add(t s:W8):W8:=⟨t.a+s.a,t.b+s.b,t.c+s.c,t.d+s.d,t.e+s.e,t.f+s.f,t.g+s.g,t.h+s.h⟩
def Ha(s:W8)(b:Bs):W8:=(yu b s 64).add s
def mZ(n:Nat):Nat:=(119-n % 64) % 64
def MJ(n:Nat):Bs:=(List.range 8).map λi=>u8 ((n*8 % 2^64 / 2^(56-8*i):Nat):Int)
def EX(b:Bs):Bs:=b++[128]++List.replicate (mZ b.length) 0++MJ b.length
def jO(s:W8)(b:Bs):W8:=if h:64<=b.length then jO (Ha s (b.take 64)) (b.drop 64)else s
 termination_by b.length
 decreasing_by simp only[iz];omega
def wB(w:W)(i:Nat):UInt8:=u8 ((w >>> (24-8*i)).toNat:Int)
def SM(s:W8):Bs:=s.l.flatMap λw=>(List.range 4).map (wB w)
def Sw(b:Bs):Bs:=SM (jO lS (EX b))
theorem vQ(s:W8):(SM s).length=32:=rfl
theorem fL(b:Bs):(Sw b).length=32:=vQ _
def AA(b:Bs):Bs:=Sw (0::b)
def Ab(a b:Bs):Bs:=Sw (1::(a++b))
def Cw(k n:Nat):Nat:=if h:2*k<n/\0<k then Cw (2*k) n else k
 termination_by n-k
 decreasing_by omega
def AY(n:Nat):Nat:=Cw 1 n
theorem Ri(k n:Nat)(hk:0<k)(hn:k<n):Cw k n<n/\0<Cw k n:=by
 unfold Cw;split
 .rename_i h;exact Ri (2*k) n (by omega) h.1
 .exact⟨hn,hk⟩
 termination_by n-k
theorem DW{n:Nat}(h:2<=n):AY n<n/\0<AY n:=Ri 1 n (by omega) (by omega)
def gP(l:List Bs):Bs:=
 match l with
 | []=>Sw []
 | [x]=>x
 |x::y::r=>Ab (gP ((x::y::r).take (AY (r.length+2)))) (gP ((x::y::r).drop (AY (r.length+2))))
 termination_by l.length
 decreasing_by
 .have:=DW (n:=r.length+2) (by omega);simp only[eA,wS];omega
 have:=DW (n:=r.length+2) (by omega);simp only[iz,wS];omega
def dS(s:ByteArray):Bs:=gM s++fW s
def js(v:jd):Bs:=u8 v.k::(if v.k=1 then [u8 v.n]else if v.k=2 then cF v.n else if v.k=3 then dS v.s else [])
def gn(r:Row):Bs:=u8 (r.length:Int)::r.flatMap js
def Uh(id:Int)(seq:Nat)(c:cV):Bs:=cF id++cF (seq:Int)++[u8 c.op]++dS c.table++dS (strOf (gn c.row))
def cU(id:Int)(seq:Nat)(c:cV):Bs:=AA (Uh id seq c)
def iM(id:Int)(l:List cV):List Bs:=l.mapIdx (cU id)
def eL(id:Int)(l:List cV):Bs:=gP (iM id l)
def jN(id:Int)(l:List cV):Bs:=AA (cF id++cF (l.length:Int)++eL id l)
structure sf where
 n:Int
 prev:Bs
 root:Bs
 count:Int
def ZC(b:sf):Bs:=cF b.n++b.prev++b.root++cF b.count
def ef(b:sf):Bs:=Sw (ZC b)
end Go.S
