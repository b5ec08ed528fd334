import Derived.Test.YthnbpiejemlbeaaGreatGA
import Derived.Laws.BytesArg
import Derived.Laws.IdiomStrings
set_option linter.all false
set_option maxRecDepth 100000
set_option maxHeartbeats 8000000
namespace Go.Sx
variable {bytes e e1 n size:Nat}{k:Value->ad->Prop}{h:ad}
theorem oZ{g:Type}{s:Sh g}{x:Option Addr}{j:Nat}{xs:List g}(q:Sl e1 s h (.slice x n j) xs){a:Option Addr}(A:size=s.n)(y:bytes<=128)
  (v:n=0->k (.slice a 0 0) h)
 (S:∀b cap h',h b=none->0<n->Le h h'->dt e s h' b cap xs->k (.slice (zsA b) n cap) h'):iF h a 0 0 x n size bytes e k:=by
 subst A;obtain⟨cs,o,p,t,u⟩:=q.lr;have f:=q.len;obtain⟨D,Q⟩:=q.bound;refine⟨cs,o,t,λB=>?_,λC=>?_⟩
 .have w:n=0:=ip
  have i:cs=[]:=kZh gg;subst w;exact .inl ⟨i,v rfl⟩
 refine⟨?_,?_,[],.inl ⟨io,rfl⟩,λb c h' r e1 z m d=>?_⟩
 .have G:(2:Nat)^40=1099511627776:=rfl;have W:(2:Nat)^48=281474976710656:=rfl;have:2*(0+n)*bytes<=2*(0+n)*128:=kZF _ y;omega
 .grind
 have l:Le h h':=zqs d e1
 have:=S b c h' e1 ip l ⟨⟨cs++r,?_,?_,?_⟩,ip,ip⟩
 .simpa using this
 .rw[d,ae];simp
 .have:=u h' (l.t _) [] r
  grind
 simp only[kXy,p,m];rw[<-kXh];congr 1;omega
theorem bA.app{D:Type}{s:Sh D}{h0:ad}{b x:Option Addr}{len cap G:Nat}{xs ys:List D}(q:bA e s h0 h (.slice b len cap) xs)(C:Sl e1 s h (.slice x n G) ys)(H:e∉s.tys)(L:size=s.n)(P:bytes<=128)(J:len+n<=2^39)
  (O:Le h0 h) (p:∀m d c' h',m=len+n->Le h0 h'->(∀tys,e∉tys->cX tys h h')->(∀j o,h j=some o->(cap=0\/b≠zsA j\/∀c fr,o≠.cells c e fr)->h' j=some o)->bA e s h0 h' (.slice d m c') (xs++ys)->k (.slice d m c') h'):
 iF h b len cap x n size bytes e k:=by
 subst L;obtain⟨cs,F,r,t,u⟩:=C.lr;have l:=q.sl.len;have I:=C.len;have w:cap<len+n->uW h b len cap n s.n bytes e cs k:=λy=>by
  refine tO q.sl y rfl P J t r (ys:=ys) gg (λh' hl=>?_) (λB c h' e1 f R o=>?_)
  .have:=u h' (hl.t _) [] []
   grind
  exact p _ _ _ h' rfl (O.trans f) (λtys _=>f.t tys) (λj o a _=>f j o a) (o.buf (O.none e1) (by rw[kXy,l,I]))
 refine⟨cs,F,?_⟩;by_cases W:len+n<=cap
 .refine⟨t,λ_=>?_,λy=>ip⟩;by_cases U:n=0
  .have E:cs=[]:=kZh gg;have Q:ys=[]:=kZh ip;refine .inl ⟨E,p _ _ _ h rfl O (λ_ _=>cX.refl _ _) (λ_ _ a _=>a) ?_⟩
   grind
  rcases q.out with⟨d,v,g⟩|⟨B,T,v,g,o⟩
  .grind
  cases v;refine .inr ⟨⟨B,xs.length*s.n,none⟩,by simp[cQ],?_⟩;have K:Rows s h cs 0 ys:=by
   have:=u h (cX.refl _ _) [] []
   grind
  refine o.write (ys:=ys) H (i:=xs.length) ip ip ip (by rw[r,I]) K (λh' A M o'=>?_);rw[kXo,wy ip,kJH]at o';refine p _ _ _ h' rfl (O.bf (iu g) A) M (λj N a V=>?_) (o'.buf g (by rw[kXy,I]));refine A j N a ?_;intro z;simp at z;rcases V with V|V|V
  .omega
  .exact V (by rw[z])
  obtain⟨c,S,-⟩:=o.out
  grind
 grind
end Go.Sx
namespace Go.S
open Go.Sx Go.Proofs
variable {a:Type}{A:Ar}{f:FuncId}{z:Int}{tys:List Nat}{cl cs fl:List Value}{xs:List a}{c cap e e1 i m n o p:Nat}{b:Option Addr}{s:Sh a}{k:Value->ad->Prop}{h h':ad}{Q:ad->Prop}
def cD:Sh UInt8 where
 n:=1
 R _ cs x:=cs=[.int .u8 (x.toNat:Int)]
 len:=gg
 one:=by rintro h cs x rfl;rfl
 tys:=[]
 mono:=λ_ q=>q
abbrev Bs:=List UInt8
theorem GZ{xs:Bs}{len:Nat}(q:Sl e1 cD h (.slice b len cap) xs)
 (m:∀h' d c',Le h h'->bA 5 cD h h' (.slice d len c') xs->k (.slice d len c') h'):
 Ct 254 [.slice b len cap] h k:=by
 refine cB eZJ Tryz.func254 λA hA=>?_;cbv;refine bm (λa=>?_) (λa=>?_)
 .rw[hA.CI]at a;cbv;have j:b=none:=by cases b<;>simp at a |-
  subst j;have hl:len=0:=by
   rcases kZE len with e|e
   .exact e
   have:=q.bu e;cases this
  have:=q.len
  grind [hx,Le.refl,bA.nil]
 cbv;intro r i N w;have l:Le h i:=zqs w N
 cbv;refine oZ (q.mono (l.t _)) rfl dl (λp=>?_) (λs c o e1 n f g=>?_)
 .cbv;have:=q.len
  grind [hx,bA.nil]
 cbv;exact m _ _ _ (l.trans f) (g.buf (l.none e1) q.len)
theorem cJd{p:Unit->Program}{u bs:List Value}(e:u=bs)(q:Hl p f u h k):Hl p f bs h k:=e ▸ q
theorem dXs{b:Nat}(x:oJ h ⟨b,o,none⟩ (.zU 0))(y:oJ h ⟨b,o+1,none⟩ (.int .i32 0))
 (H:∀e,Up h b (o+1) (.int .i32 1) e->Ct f (fl++cl) e (λv c=>v=.tuple #[]/\oJ c ⟨b,o,none⟩ (.zU 0)/\oJ c ⟨b,o+1,none⟩ (.int .i32 1)/\Q c)) (p:aP f=true:=by kernel_rfl):
 Ct 244 [.pointer (some ⟨b,o,none⟩),.func (.func f) fl.toArray cl.toArray] h (λv h'=>v=.tuple #[]/\∃c i,Q c/\Up c b o (.zU 1) i/\Up i b (o+1) (.int .i32 0) h'):=by
 obtain⟨A,hA⟩:=Ar.ex;obtain⟨d,K⟩:∃g,g=aP:=⟨_,rfl⟩;have tk:il Tryz.prog ⟨ty,d,VX.aw,VX.bz,λ_=>false,[],λ_ _ _=>False⟩:=by rw[K];exact aj _ _
 have s:d f=true:=by rw[K];exact p
 have n:d 325=true:=by rw[K];kernel_rfl
 have m:d 243=true:=by rw[K];kernel_rfl
 have l:d 77=true:=by rw[K];kernel_rfl
 have k:d 326=true:=by rw[K];kernel_rfl
 clear K p;refine oE A tk Tryz.func244 rfl (by kernel_rfl) ?_;cbv;rw[av A,n];cbv;refine(Ke y).mono (λv e hR=>?_);obtain⟨rfl,u⟩:=hR;have X:=u.other ip x;cbv;rw[av A];rw[av A,m];cbv;refine(oH X).mono (λv c hR=>?_);obtain⟨t,rfl,j,rfl⟩:=hR;have j:t=false:=by rw[j];rfl
 subst j;cbv;rw[hA.not];cbv;rw[av A,s];cbv;refine cJd (by cases fl with|nil=>cases cl<;>rfl|cons a t=>exact(show a::(t++cl)=a::((t++[])++cl)by rw[kJH])) ((H _ u).mono (λv c hR=>?_));obtain⟨rfl,q,r,B⟩:=hR;cbv;rw[l];cbv;refine(Cn q).mono (λv i hR=>?_);obtain⟨-,Z⟩:=hR;have W:=Z.other ip r;cbv;rw[k];cbv;refine(zC W).mono (λv z hR=>?_);obtain⟨-,w⟩:=hR;cbv
 grind
theorem jZW{b:Nat}(q:oJ h ⟨b,o,none⟩ (.zU 0))(i:oJ h ⟨b,o+1,none⟩ (.int .i32 0))
 (H:∀d,Up h b (o+1) (.int .i32 1) d->Ct f (fl++cl) d (λv a=>v=.tuple #[]/\oJ a ⟨b,o,none⟩ (.zU 0)/\oJ a ⟨b,o+1,none⟩ (.int .i32 1)/\Q a)) (g:aP f=true:=by kernel_rfl):
 Ct 126 [.pointer (some ⟨b,o,none⟩),.func (.func f) fl.toArray cl.toArray] h (λv h'=>v=.tuple #[]/\∃a e,Q a/\Up a b o (.zU 1) e/\Up e b (o+1) (.int .i32 0) h'):=by
 have sl:=dXs q i H g;clear H g;generalize Z:(Value.func (.func f) fl.toArray cl.toArray)=j at sl |-;refine cB Ek Tryz.func126 λA hA=>?_;clear Z;cbv;rw[av A];refine(oH q).mono (λv a hR=>?_);obtain⟨t,rfl,c,rfl⟩:=hR;have c:t=false:=by rw[c];rfl
 subst c;cbv;rw[hA.not];cbv;refine sl.mono (λv a hR=>?_);obtain⟨rfl,hR⟩:=hR;cbv
 grind
theorem eQq{c:Value}{b:Nat}(q:oJ h ⟨b,o,none⟩ (.zU 1)):
 Ct 126 [.pointer (some ⟨b,o,none⟩),c] h (λv h'=>v=.tuple #[]/\h'=h):=by
 refine cB Ek Tryz.func126 λA hA=>?_;cbv;rw[av A];refine(oH q).mono (λv d hR=>?_);obtain⟨t,rfl,a,rfl⟩:=hR;have a:t=true:=by rw[a];rfl
 subst a;cbv;rw[hA.not];cbv
 grind
theorem dQF{ty:Nat}{c:List Value}(g:h p=zcL ty c)(d:c[o]? =some (.zU 0))(i:c[o+1]? =some (.int .i32 0))
 (H:∀b,b=bO h p (.cells (c.set (o+1) (.int .i32 1)).toArray ty (0,0))->Ct f (fl++cl) b (λv a=>v=.tuple #[]/\∃c':List Value,a p=zcL ty c'/\c'[o]? =some (.zU 0)/\c'[o+1]? =some (.int .i32 1)/\
  k (.tuple #[]) (bO a p (.cells ((c'.set o (.zU 1)).set (o+1) (.int .i32 0)).toArray ty (0,0))))) (m:aP f=true:=by kernel_rfl):
 Ct 126 [.pointer (some ⟨p,o,none⟩),.func (.func f) fl.toArray cl.toArray] h k:=by
 refine(jZW (f:=f) (fl:=fl) (cl:=cl) (Q:=λa=>∃c':List Value,a p=zcL ty c'/\k (.tuple #[]) (bO a p (.cells ((c'.set o (.zU 1)).set (o+1) (.int .i32 0)).toArray ty (0,0)))) (cJ g d) (cJ g i) (λb u=>?_) m).mono (λv s hR=>?_)
 .refine(H b (u.exp g)).mono (λv a hR=>?_)
  grind [cJ]
 obtain⟨rfl,a,r,⟨c',j,t⟩,n,u3⟩:=hR;have e:=n.exp j;have l:=zqt e;have q:=u3.exp l
 grind [eI]
structure Em where
 b:Bs
 e:Int
structure HX(h:ad)(p:Nat)(r:Em):Prop where
 out:∃bb n c d,h p=zcL 411 [.slice bb n c,.zI r.e,.zU d,.int .i32 0,.zU 0]/\Sl 5 cD h (.slice bb n c) r.b/\((r.e=0/\d=0)\/(r.e≠0/\d=1))
theorem HX.le{r:Em}(q:HX h p r)(l:Le h h'):HX h' p r:=by obtain⟨bb,n,c,d,g,s,hd⟩:=q.out;exact⟨bb,n,c,d,l _ _ g,s.mono (l.t _),hd⟩
structure fQo(p:Nat)(h h':ad):Prop where
 kp:Kp [p] h h'
 ty:∃c e fr,h p=some (.cells c e fr)/\∃c' Lm,h' p=some (.cells c' e Lm)
theorem Gc(k:Kp [p] h h'){c:Array Value}{fr:Nat×Nat}(g:h p=some (.cells c e fr))(i:e∉tys):cX tys h h':=λb d f L m a=>
 k b _ a (by intro Q;grind)
theorem HX.lt{r:Em}(q:HX h p r)(k:Kp [p] h h')(e:411∉tys):cX tys h h':=by obtain⟨bb,n,c,d,g,-,-⟩:=q.out;exact Gc k g e
def sC(e:Int)(r:Em):Em:=if e≠0/\r.e=0 then⟨r.b,e⟩else r
theorem dKZ{a b:Nat}{x:Int}{t j:Nat}{s1 s2 s3 s y:Value}(d:h a=some (.cells #[.zI x] t (0,0)))(g:h b=some (.cells #[.zP c] j (0,0)))
 (e:h c=zcL 411 [s1,y,s2,s3,s])  (i:k (.tuple #[]) (bO h c (.cells #[s1,.zI x,s2,s3,s] 411 (0,0)))):
 Ct 365 [.zP a,.zP b] h k:=by
 refine cB eQQ Tryz.func365 λA hA=>?_;cbv;refine cy g ?_;cbv;refine cy d ?_;cbv;rw[av A];refine jE e io (λh' f=>?_);subst f;cbv;exact i
theorem bJQ{r:Em}(q:HX h p r)(x:Int)(t:∀h',Kp [p] h h'->HX h' p (sC x r)->k (.tuple #[]) h'):
 Ct 336 [.zP p,.zI x] h k:=by
 obtain⟨bb,n,c,d,g,s,hd⟩:=q.out;have J:=s.bound;refine cB eXn Tryz.func336 λA hA=>?_;cbv;intro i z T e1;cbv;intro j b D l;have F:Le h z:=zqs e1 T
 have C:Le z b:=zqs l D
 have a:=F.trans C;have y:b j=some (.cells #[.zI x] 33 (0,0)):=by rw[l];exact ae
 have w:b i=some (.cells #[.zP p] 296 (0,0)):=C _ _ (by rw[e1];exact ae);have m:=a _ _ g;have G:i≠p:=λe=>gg
 have H:j≠p:=λe=>gg
 have E:A .aQ .neq x 0=decide (x≠0):=aJ A ..;clear e1 l;cbv;refine cy y ?_;cbv;rw[E];by_cases hx:x≠0
 .rw[kS hx];cbv;refine cy w ?_;cbv;rw[av A];rcases hd with⟨he,rfl⟩|⟨he,rfl⟩
  .refine dQF (f:=365) (fl:=[]) (cl:=[.zP j,.zP i]) m rfl rfl (λB u=>?_);have o:B j=some (.cells #[.zI x] 33 (0,0)):=by rw[u,cH H];exact y
   have Z:B i=some (.cells #[.zP p] 296 (0,0)):=by rw[u,cH G];exact w
   have Q:=zqt u;refine dKZ o Z Q ⟨rfl,_,ae,rfl,rfl,?_⟩;rw[u,eI,eI];have P:sC x r=⟨r.b,x⟩:=if_pos ⟨hx,he⟩;have kp:Kp [p] b (bO b p (.cells #[.slice bb n c,.zI x,.zU 1,.int .i32 0,.zU 0] 411 (0,0))):=Kp.set io;have:=t _ ((a.kp _).trans kp) (by rw[P];exact⟨bb,n,c,1,ae,(s.mono (a.t _)).mono (Gc kp m dl),.inr ⟨hx,rfl⟩⟩);cbv;exact this
  refine(eQq (cJ m rfl)).mono (λv I hR=>?_);obtain⟨rfl,rfl⟩:=hR;cbv;exact t _ (a.kp _) (by rw[show sC x r=r from if_neg (λg=>he g.2)];exact q.le a)
 rw[kQW hx];cbv;exact t _ (a.kp _) (by rw[show sC x r=r from if_neg (λg=>hx g.1)];exact q.le a)
theorem hXw{xs:Bs}{len:Nat}(q:Sl e1 cD h (.slice b len cap) xs)
 (m:∀h' p,h p=none->Le h h'->HX h' p ⟨xs,0⟩->k (.zP p) h'):
 Ct 141 [.slice b len cap] h k:=by
 refine cB eKA Tryz.func141 λA hA=>?_;cbv;refine GZ q (λi d f l n=>?_);cbv;intro p j a e;have c:Le i j:=zqs e a
 have g:=zqt e;cbv;exact m _ p (l.none a) (l.trans c) ⟨d,len,f,0,g,n.sl.mono (c.t _),.inl ⟨rfl,rfl⟩⟩
theorem _root_.Go.Sx.Sl.vU[hA:bM A](q:Sl e s h (.slice b n c) xs)(g:i<=n)(j:m=i):
 Sl e s h (.slice (A .cut b 0 z s.n) m c) (xs.take i):=by
 have d:=(q.tp (A:=A) (z:=z) g (m:=i) (c':=i) rfl rfl).out;obtain⟨k,cap,e1,l,f,o⟩:=d;subst j;have p:=q.bound;have hl:(xs.take m).length=m:=gg
 refine⟨A .cut b 0 z s.n,c,by rw[hl],by rw[hl];omega,f,?_⟩
 grind
def kA(n:Nat)(r:Em):Bs×Em:=if n>r.b.length then([],sC 8 r)else if r.e≠0 then([],r)else(r.b.take n,⟨r.b.drop n,0⟩)
theorem Xz{r:Em}(q:HX h p r)(f:bg z n)
 (a:∀h' b m c,Kp [p] h h'->Sl 5 cD h' (.slice b m c) (kA n r).1->HX h' p (kA n r).2->k (.slice b m c) h'):
 Ct 335 [.zP p,.zI z] h k:=by
 obtain⟨A,hA⟩:=Ar.ex;obtain⟨bb,m,c,d,g,s,hd⟩:=q.out;have K:=s.bound;have x:=s.len;have fn:A .aQ .gtr z (A .nat m)=decide (n>m):=by rw[bF A,hA.nat,f.eq];grind
 have E:n<=m->0<=z/\z<=(c:Int):=λD=>by have:=f.eq;omega
 have W:n<=m->0<=z/\z<=(m:Int):=λD=>by have:=f.eq;omega
 have v:=dJ (A:=A) f;have B:=cS (A:=A) (n:=m) f;have C:=cS (A:=A) (n:=c) f;refine kh eXo A Tryz.func335 ?_;cbv;rw[av A];refine cy g ?_;cbv;rw[fn];by_cases y:n>m
 .have P:kA n r=([],sC 8 r):=if_pos ip;rw[P]at a;rw[kS y];cbv;refine bJQ q 8 (λi j u=>?_);have V:(sC 8 r).e≠0:=by
   grind [sC]
  obtain⟨l,X⟩:∃l,l=sC 8 r:=⟨_,rfl⟩;rw[<-X]at u V a;obtain⟨Q,L,J,v,t,s1,H⟩:=u.out;have o:A .aQ .neq l.e 0=decide (l.e≠0):=aJ A ..;cbv;rw[av A];refine cy t ?_;cbv;rw[o,kS V];cbv;exact a _ _ _ _ j Sl.nil u
 have o:A .aQ .neq r.e 0=decide (r.e≠0):=aJ A ..;rw[kQW y];cbv;rw[av A];refine cy g ?_;cbv;rw[o];by_cases w:r.e≠0
 .have P:kA n r=([],r):=by grind [kA]
  rw[P]at a;rw[kS w];cbv;exact a _ _ _ _ (Kp.refl _ _) Sl.nil q
 have I:r.e=0:=ip
 have P:kA n r=(r.b.take n,⟨r.b.drop n,0⟩):=by grind [kA]
 rw[P]at a;rw[kQW w];cbv;rw[av A];refine cy g ?_;cbv;refine⟨E ip,?_⟩;cbv;rw[av A];refine cy g ?_;cbv;refine⟨W ip,?_⟩;cbv;rw[av A];refine jE g io (λi e1=>?_);have j:Kp [p] h i:=by rw[e1];exact Kp.set io
 have lt:cX [5] h i:=Gc j g dl;have t:=zqt e1;have F:Sl 5 cD i (.slice (A .cut bb 0 (A .nat c) 1) n c) (r.b.take n):=(s.mono lt).vU ip rfl;have G:Sl 5 cD i (.slice (A .cut bb z (A .nat c) 1) (m-n) (c-n)) (r.b.drop n):=(s.mono lt).jX f ip rfl rfl;clear e1;cbv;rw[v];refine a _ _ _ _ j F ⟨_,_,_,d,?_,G,.inl ⟨rfl,by rcases hd with⟨_,e⟩|⟨e,_⟩<;>simp_all⟩⟩;rw[t,I];show some (Obj.cells #[_,_,_,_,_] _ _)=_;rw[B,C]
def nL:Bs->Nat
 | []=>0
 |b::r=>b.toNat+256*nL r
theorem FZ:∀l:Bs,nL l<256^l.length
 | []=>by simp[nL]
 |b::r=>by
  have h:=FZ r;have a:=b.toNat_lt
  grind [nL]
theorem Sd:∀(l:Bs) (b:UInt8),nL (l++[b])=nL l+b.toNat*256^l.length
 | [],b=>by simp[nL]
 |a::r,b=>by
  simp only[kJC,nL,Sd r b,kZs,Nat.pow_succ]
  grind
theorem cQe(i:Nat):256^i=2^(8*i):=by rw[Nat.pow_mul]
theorem sZ{x:Nat}(h:x<2^64):IntKind.u64.wrap (x:Int)=(x:Int):=by have:(2:Nat)^64=18446744073709551616:=rfl;exact IntWalk.u64_in _ ip
theorem XR{b:Nat}(f:i<8)(e:b<256):aX .shl .u64 (b:Int) ((8*i:Nat):Int)=((b*256^i:Nat):Int):=by
 have h:b*256^i<2^64:=by
  have a:(256:Nat)^i<=256^7:=Nat.pow_le_pow_right ip ip;have:b*256^i<=255*256^7:=eA ip a
  grind
 show IntKind.u64.wrap ((b:Int)*2^(min ((8*i:Nat):Int).toNat 64))=_;have c:min ((8*i:Nat):Int).toNat 64=8*i:=ip
 rw[c];have d:(b:Int)*2^(8*i)=((b*256^i:Nat):Int):=by rw[cQe];push_cast;rfl
 rw[d,sZ h]
theorem aJI{a b:Nat}(k:i<8)(d:a<256^i)(j:b<256):aX .or .u64 (a:Int) ((b*256^i:Nat):Int)=((a+b*256^i:Nat):Int):=by
 have f:(256:Nat)^i<=256^7:=Nat.pow_le_pow_right ip ip;have h0:b*256^i<=255*256^i:=eA ip (qA _);have g:(256:Nat)*256^7=2^64:=dl
 have h:a+b*256^i<2^64:=ip
 show IntKind.u64.wrap (((BitVec.ofInt 64 (a:Int)|||BitVec.ofInt 64 ((b*256^i:Nat):Int)).toNat:Nat):Int)=_;have c:(BitVec.ofInt 64 (a:Int)|||BitVec.ofInt 64 ((b*256^i:Nat):Int)).toNat=a+b*256^i:=by
  rw[BitVec.toNat_or,BitVec.toNat_ofInt,BitVec.toNat_ofInt];have e1:(((a:Int) % ((2^64:Nat):Int)).toNat)=a:=by
   grind
  have e:((((b*256^i:Nat):Int) % ((2^64:Nat):Int)).toNat)=b*256^i:=by
   grind
  rw[e1,e,Nat.or_comm];have:=Nat.two_pow_add_eq_or_of_lt (i:=8*i) (b:=a) (by rw[<-cQe];exact d) b
  grind [cQe]
 rw[c,sZ h]
theorem XT{x:UInt8}(q:cD.R h cs x):∃z,cs=[.int .u8 z]/\cD.R h [.int .u8 z] x:=⟨_,q,rfl⟩
def oA(n:Nat)(r:Em):Int×Em:=(IntKind.i64.wrap (nL (kA n r).1:Int),(kA n r).2)
theorem Iq(n:Nat)(r:Em):(kA n r).1.length<=n:=by
 grind [kA]
theorem JY{r:Em}(q:HX h p r)(C:bg z n)(hn:n<=8)
 (B:∀h',Kp [p] h h'->HX h' p (oA n r).2->k (.zI (oA n r).1) h'):
 Ct 261 [.zP p,.zI z] h k:=by
 refine cB eZC Tryz.func261 λA hA=>?_;cbv;refine Xz q C (λj b m c X s1 q1=>?_);have hl:=Iq n r;have M:=s1.len;have P:oA n r=(IntKind.i64.wrap (nL (kA n r).1:Int),(kA n r).2):=rfl;rw[P]at B;clear P;generalize kA n r=D at *;obtain⟨l,r1⟩:=D;have hl:l.length<=n:=hl;have M:m=l.length:=M;have s1:Sl 5 cD j (.slice b m c) l:=s1;have I:∀z:Int,z=((nL l:Nat):Int)->k (.zI (A .conv .i64 z)) j:=λz C=>by
  have:=B j X q1;rw[hA.conv,C];exact this
 obtain⟨J,H⟩:∃J:Nat->(Int×Int)->ad->Prop,∀w g h',J w g h'=(h'=j/\∃i,bg g.1 i/\i<=m/\w=m-i/\g.2=((nL (l.take i):Nat):Int)):=⟨_,λ_ _ _=>rfl⟩;have y:J m (0,0) j:=by rw[H];exact⟨rfl,0,⟨rfl⟩,kXH _,rfl,rfl⟩
 clear B;cbv;refine ba.gz (G:=Int×Int) (λg=>[(12,.v (.zI g.1)),(5,.v (.int .u64 g.2))]) (λ_=>[]) (λw g h'=>J w g h') m (0,0) y ?_
 intro w g K L;rw[H]at L;cbv;obtain⟨a,u⟩:=g;obtain⟨rL,i,f,UY,hw,s⟩:=L;subst rL;have f:bg a i:=f;have s:u=((nL (l.take i):Nat):Int):=s;have U:A .aQ .lss a (A .nat m)=decide (i<m):=f.zQ (bg.nat m);have T:i<m->b.isSome=true/\0<=a/\a<(m:Int):=λo=>⟨s1.bu,f.ix o⟩;have O:=λo=>f.succ (A:=A) o;have W:0<=A .aX .mul .i64 8 a:=by rw[hA.aX,f.eq];show 0<=IntKind.i64.wrap (8*(i:Int));rw[IntWalk.i64_in _ ip];omega
 have S:∀(x:UInt8) (v:Int),l[i]? =some x->cD.R K [.int .u8 v] x->A .aX .or .u64 u (A .aX .shl .u64 (A .conv .u64 v) (A .aX .mul .i64 8 a))=((nL (l.take (i+1)):Nat):Int):=λx v hx d=>by
  have d:v=(x.toNat:Int):=by cases d;rfl
  subst d;have ic:i<l.length:=(HH.1 hx).1;have e1:A .aX .mul .i64 8 a=((8*i:Nat):Int):=by rw[hA.aX,f.eq];show IntKind.i64.wrap (8*(i:Int))=_;rw[IntWalk.i64_in _ ip];omega
  have OG:=x.toNat_lt;have R:A .conv .u64 (x.toNat:Int)=(x.toNat:Int):=by rw[hA.conv];exact sZ ip
  have Z:nL (l.take i)<256^i:=by
   have:=FZ (l.take i)
   grind
  rw[e1,R,hA.aX,XR ip ip,s,aJI ip Z ip,kJG,hx]
  grind [nL,Sd]
 have t:∀E,E=((nL (l.take (i+1)):Nat):Int)->i<m->J (m-(i+1)) (A .aX .add .i64 a 1,E) K:=λE e o=>gg
 have N:=f.eq;have Q:=I u;clear I;cbv;rw[U];by_cases Z:i<m
 .obtain⟨x,hx⟩:=cK l i;rw[kS Z];clear H y O Q;cbv;refine⟨T Z,?_⟩;cbv;refine s1.load hx N (λcs F=>?_);obtain⟨v,d,hR⟩:=XT F;subst d;have V:=t _ (S x v hx hR) Z;clear t S hR F;cbv;refine⟨W,?_⟩;cbv;refine zqn (m-(i+1)) (A .aX .add .i64 a 1,_) ip V
 have:i=l.length:=ip
 have Y:=Q (by rw[s,this,kXo]);clear H t S y O Q;rw[kQW Z];cbv;exact Y
def strOf(l:Bs):ByteArray:=⟨l.toArray⟩
def jZ(s:ByteArray):Bs:=s.data.toList
theorem AB:Tryz.prog.underlying 5=some (.int .u8):=by kernel_rfl
theorem yw:Tryz.prog.underlying 176=some (.slice 5):=by kernel_rfl
theorem xO:Tryz.prog.underlying 9=some .string:=by kernel_rfl
theorem rU{l:Bs}(q:Sl e1 cD h (.slice b n c) l)(p:k (.string (strOf l)) h):
 fL (λ_=>Tryz.prog) (λ_=>Go.convert 176 9 (.slice b n c)) h k:=by
 have r:=q.len;subst r;refine⟨λw e=>⟨_,w,h,?_,p,cj.refl e⟩⟩;obtain⟨s,cap,e1,t,u,m⟩:=q.out;cases e1;rcases m with rfl| ⟨lQ,off,cc,fr,rfl,g,i⟩
 .cases b with
  |none=>exact run_convert_bytes_nil w _ _ yw AB _ _ _ xO
  |some a=>exact run_convert_bytes_back w _ _ _ a c [] yw AB xO (λj d=>absurd d io)
 refine run_convert_bytes_back w _ _ _ ⟨lQ,off,none⟩ c l yw AB xO (λj d=>?_);have hx:=i.2 j l[j] (by simp[d]);have hx:((cc.toList.drop (off+j*1)).take 1)=[.int .u8 (l[j].toNat:Int)]:=hx;have o:cc[off+j]? =some (.int .u8 (l[j].toNat:Int)):=by
  have:=congrArg (λz=>z[0]?) hx
  grind
 have f:(⟨lQ,off,none⟩:Addr).add j=⟨lQ,off+j,none⟩:=by simp[Addr.add]
 rw[f];simp[World.cell?,e _ _ g,o]
theorem xQ{s:ByteArray}(l:s.size<=2^40)(f:∀n c m h',m=s.size->h n=none->Le h h'->Sl 5 cD h' (.slice (zsA n) m c) (jZ s)->k (.slice (zsA n) m c) h'):
 fL (λ_=>Tryz.prog) (λ_=>Go.convert 9 176 (.string s)) h k:=by
 refine⟨λw a=>?_⟩;have d:=run_bytes_of_string (P:=Tryz.prog) w 9 176 5 s xO yw AB;have N:s.size<=grownCap w s.size 0 5:=grownCap_ge w _ _ _;generalize grownCap w s.size 0 5=cap at d N;have b:h w.heap.size=none:=a.oG (qA _);have oR:s.size=(jZ s).length:=(kZU (xs:=s.data)).symm;refine⟨_,_,bO h w.heap.size (.cells (bytesRow s cap) 5 ((bytesRow s cap).size,(bytesRow s cap).size+1)),d,f _ _ _ _ rfl b (Le.set b) ?_,?_⟩
 .refine⟨_,cap,by rw[oR],gg,gg,.inr ⟨_,0,_,_,rfl,ae,?_,λi x hx=>?_⟩⟩
  .show 0+(jZ s).length*1<=_;rw[<-oR];unfold bytesRow;rw[kJM,kXy,kZU,Array.size_map];show 0+s.data.size*1<=_;omega
  have g:i<(jZ s).length:=(HH.1 hx).1;show(((bytesRow s cap).toList.drop (0+i*1)).take 1)=_;unfold bytesRow;apply kZq;intro j;rw[kZo,kXz];by_cases e:j<1
  .rw[if_pos e];have G:j=0:=ip
   subst G;rw[kJM,kQU (by rw[kZU,Array.size_map];have:i<s.data.toList.length:=g;grind)];have D:s.data.toList[i]? =some x:=hx
   grind
  grind
 have:=cj.new (h:=h) (w:=w.drew) a (.cells (bytesRow s cap) 5 ((bytesRow s cap).size,(bytesRow s cap).size+1));exact⟨this.os,this.tape,this.output,this.size,this.EP,this.frame⟩
theorem hXz{r:Em}(q:HX h p r)(b:∀h',Kp [p] h h'->HX h' p (oA 8 r).2->k (.zI (oA 8 r).1) h'):
 Ct 258 [.zP p] h k:=by
 refine cB eZF Tryz.func258 λA hA=>?_;cbv;refine JY (n:=8) q ⟨rfl⟩ dl (λa c d=>?_);have:=b a c d;generalize oA 8 r=D at *;cbv;exact this
theorem fQz{r:Em}(q:HX h p r)(b:∀h',Kp [p] h h'->HX h' p (oA 1 r).2->k (.zI (oA 1 r).1) h'):
 Ct 142 [.zP p] h k:=by
 refine cB eKz Tryz.func142 λA hA=>?_;cbv;refine JY (n:=1) q ⟨rfl⟩ dl (λa c d=>?_);have:=b a c d;generalize oA 1 r=D at *;cbv;exact this
def Io(r:Em):Bs×Em:=kA (oA 2 r).1.toNat (oA 2 r).2
theorem YK(r:Em):bg (oA 2 r).1 (oA 2 r).1.toNat/\(oA 2 r).1.toNat<65536:=by
 have b:=FZ (kA 2 r).1;have h:=Iq 2 r;have c:256^(kA 2 r).1.length<=256^2:=Nat.pow_le_pow_right ip h;have a:(oA 2 r).1=(nL (kA 2 r).1:Int):=by show IntKind.i64.wrap _=_;rw[IntWalk.i64_in _ ip]
 rw[a];exact⟨⟨ip⟩,ip⟩
theorem eQF{r:Em}(q:HX h p r)(a:∀h',Kp [p] h h'->HX h' p (Io r).2->k (.string (strOf (Io r).1)) h'):
 Ct 263 [.zP p] h k:=by
 refine cB eZA Tryz.func263 λA hA=>?_;cbv;refine JY (n:=2) q ⟨rfl⟩ dl (λu f i=>?_);have e:=(YK r).1;have a:∀h',Kp [p] h h'->HX h' p (kA (oA 2 r).1.toNat (oA 2 r).2).2->k (.string (strOf (kA (oA 2 r).1.toNat (oA 2 r).2).1)) h':=a;generalize oA 2 r=D at *;obtain⟨z,o⟩:=D;generalize z.toNat=n at *;cbv;refine Xz i e (λd b m c g s2 j=>?_);have U:=a d (f.trans g) j;generalize kA n o=D at *;obtain⟨l,v⟩:=D;generalize s:strOf l=t at *;cbv;refine rU s2 ?_;rw[s];cbv;exact U
def aQy(r:Em):Int:=if r.e=0/\r.b≠[]then 9 else r.e
theorem hXA{r:Em}(q:HX h p r)(a:k (.zI (aQy r)) h):
 Ct 147 [.zP p] h k:=by
 obtain⟨A,hA⟩:=Ar.ex;obtain⟨bb,m,c,d,g,s,hd⟩:=q.out;have l:=s.len;have f:A .aQ .eql r.e 0=decide (r.e=0):=au A ..;have i:A .aQ .gtr (A .nat m) 0=decide (r.b≠[]):=by
  rw[bF A,hA.nat];refine decide_eq_decide.2 ?_;rw[kZn,l];constructor
  .grind
  intro h;have:=kZz.2 h;omega
 refine kh eKw A Tryz.func147 ?_;cbv;rw[av A];refine cy g ?_;cbv;rw[f];by_cases e:r.e=0
 .rw[kS e];cbv;rw[av A];refine cy g ?_;cbv;rw[i];by_cases b:r.b≠[]
  .rw[show aQy r=9 from if_pos ⟨e,b⟩]at a;rw[kS b];cbv;exact a
  rw[show aQy r=r.e from if_neg (λg=>b g.2)]at a;rw[kQW b];cbv;rw[av A];refine cy g ?_;cbv;exact a
 rw[show aQy r=r.e from if_neg (λg=>e g.1)]at a;rw[kQW e];cbv;rw[av A];refine cy g ?_;cbv;exact a
def fZu:List Nat:=[5,100,211,210,224]
def DS:Sh Bs where
 n:=1
 R h cs xs:=∃v,cs=[v]/\∃e∈fZu,Sl e cD h v xs
 len:=gg
 one:=by rintro h cs x ⟨v,rfl,e,-,q⟩;obtain⟨b,cap,rfl,-⟩:=q.out;rfl
 tys:=fZu
 mono:=by rintro h h' cs x hl ⟨v,rfl,e,he,q⟩;exact⟨v,rfl,e,he,q.mono (hl.sub λt ht=>by simp[cD]at ht;grind)⟩
theorem eU{v:Value}{xs:Bs}(q:Sl e cD h v xs)(a:e∈fZu:=by decide):DS.R h [v] xs:=⟨v,rfl,e,a,q⟩
theorem dKO(d:bg z m)(j:m<=2^38):
 Ct 330 [.zN,.zI z] h (λv h'=>Le h h'/\∃b c',v=.slice b 0 c'/\bA 5 cD h h' (.slice b 0 c') ([]:Bs)):=by
 obtain⟨A,hA⟩:=Ar.ex;have h0:bg (A .nat 0) 0:=bg.nat 0;have a:=d.sub (A:=A) (h0.sub (A:=A) h0 ip ip) ip ip;simp only[kZD,kKd]at a;refine kh eXs A Tryz.func330 ?_;cbv;rw[d.zO (A:=A)];cbv;generalize e:A .aQ .gtr (A .aX .sub .i64 z (A .aX .sub .i64 (A .nat 0) (A .nat 0))) 0=u;generalize f:A .aX .sub .i64 z (A .aX .sub .i64 (A .nat 0) (A .nat 0))=w at a e;rw[bF A]at e;cases u with
 |true=>
  have p:=kZr e;have E:0<m:=by have:=a.eq;omega
  cbv;have x:(0:Int)<=A .nat 0/\A .nat 0<=((0:Nat):Int):=by have:=h0.eq;omega
  refine⟨x,?_⟩;cbv;refine⟨xE a ip dl,?_⟩;cbv;rw[dJ (A:=A) a,dJ (A:=A) h0];refine pa (s:=cD) (xs:=([]:Bs)) Sl.nil ip rfl dl ip rfl rfl (λn c g M l i o=>?_);rw[kJe];have L:(0:Int)<=A .nat 0/\A .nat 0<=((c:Nat):Int):=gg
  cbv;refine⟨L,?_⟩;cbv;rw[dJ (A:=A) h0,xB (A:=A)];exact⟨l,_,_,rfl,o.buf M rfl⟩
 |false=>
  cbv
  grind [Le.refl,bA.nil]
theorem BH{L:List (Bs)}(q:Sl 176 DS h (.slice b n c) L)(Q:L.flatten.length<=2^38)(r:∀h' o n' c',Le h h'->bA 5 cD h h' (.slice o n' c') L.flatten->k (.slice o n' c') h'):
 Ct 249 [.slice b n c] h k:=by
 obtain⟨E,K⟩:∃E,E=k:=⟨_,rfl⟩;rw[<-K];have F:=r;rw[<-K]at F;clear r;have D:=q.len;obtain⟨lG,gQ⟩:=q.bound;refine cB eZN Tryz.func249 λA hA=>?_;cbv;refine ba.go (G:=Int×Int) (λg=>[(11,.v (.zI g.1)),(3,.v (.zI g.2))]) (λ_=>[])
  (λk g h'=>∃i:Nat,bg g.1 i/\k=n-i/\i<=n/\h'=h/\bg g.2 (L.take i).flatten.length) n (0,0) ⟨?_,?_,?_⟩ ⟨0,⟨rfl⟩,ip,ip,rfl,⟨rfl⟩⟩ ?_
 .cbv
 .cbv
 .cbv
 intro k g h' I;cbv;obtain⟨i,a,r,P,rfl,j⟩:=I;refine bm (λd=>?_) (λd=>?_)
 .have Z:=a.lt d;clear d;cbv;obtain⟨x,hx⟩:=cK L i;refine⟨⟨q.bu,a.ix Z⟩,?_⟩;cbv;refine q.load hx a.eq (λcs t=>?_);obtain⟨v,rfl,e1,Y,f⟩:=t;obtain⟨y,s,B,rfl⟩:=f.form;have U:=f.len;have l:=yg L (i+1);rw[ir hx,kXy,<-U]at l;have M:=j.add (A:=A) (bg.nat (A:=A) s) ip;have u:=ir hx;cbv;rw[M.zO (A:=A)];cbv;refine zqn (n-(i+1)) (_,A .aX .add .i64 g.2 (A .nat s)) ip ⟨i+1,a.succ (A:=A),rfl,ip,rfl,?_⟩
  grind
 have T:=a.ge d;have X:i=n:=ip
 rw[kXe ip]at j;obtain⟨z,w⟩:=g;have j:bg w L.flatten.length:=j;cbv;refine(dKO j Q).mono (λv h1 hR=>?_);obtain⟨s,y,B,rfl,e⟩:=hR;cbv;refine ba.go (G:=Int×Option Addr×Nat×Nat) (λg=>[(27,.v (.zI g.1)),(6,.v (.slice g.2.1 g.2.2.1 g.2.2.2))]) (λ_=>[])
  (λk g p=>∃i:Nat,bg g.1 i/\k=n-i/\i<=n/\Le h' p/\bA 5 cD h' p (.slice g.2.1 g.2.2.1 g.2.2.2) (L.take i).flatten) n (0,y,0,B) ⟨?_,?_,?_⟩ ⟨0,⟨rfl⟩,ip,ip,s,e⟩ ?_
 .cbv
 .cbv
 .cbv
 intro k g p I;cbv;obtain⟨i,a,r,P,l,e⟩:=I;obtain⟨z,N,C,O⟩:=g;have a:bg z i:=a;have e:bA 5 cD h' p (.slice N C O) (L.take i).flatten:=e;refine bm (λd=>?_) (λd=>?_)
 .have Z:=a.lt d;clear d;cbv;obtain⟨x,hx⟩:=cK L i;refine⟨⟨q.bu,a.ix Z⟩,?_⟩;cbv;refine(q.mono (l.t _)).load hx a.eq (λcs t=>?_);obtain⟨v,rfl,e1,Y,f⟩:=t;obtain⟨V,l2,W,rfl⟩:=f.form;have S:=f.len;have H:C=(L.take i).flatten.length:=e.sl.len;have J:=yg L (i+1);have u:=ir hx;rw[u,kXy,<-S,<-H]at J;cbv;refine e.app f dl rfl dl ip l (λm o c' h3 hm R t3 k3 yL=>?_);cbv;refine zqn (n-(i+1)) (_,o,m,c') ip ⟨i+1,a.succ (A:=A),rfl,ip,R,?_⟩
  grind
 have T:=a.ge d;cbv
 grind
theorem Kg(c:s.n=1)(d:h n=zcL e cs)(hl:cs.length=xs.length)(hx:xs.length<=2^40)(r:∀(i:Nat) (v:Value) (x:a),cs[i]? =some v->xs[i]? =some x->s.R h [v] x)(g:m=xs.length):Sl e s h (.slice (zsA n) m m) xs:=by
 subst g;refine Sl.fresh d ⟨by rw[c];omega,λi x hx=>?_⟩ hx (qA _);have b:i<cs.length:=gg
 have f:cs[i]? =some cs[i]:=by simp[b]
 have:=r i _ x f hx;rw[c,kJe,vi,show(cs.drop i).take 1=[cs[i]]from by rw[kQP b];rfl]
 exact this
def u8(n:Int):UInt8:=UInt8.ofNat (n % 256).toNat
theorem lD[hA:bM A](n:Int):cD.R h [.int .u8 (A .conv .u8 n)] (u8 n):=by
 show [Value.int .u8 (A .conv .u8 n)]=[.int .u8 ((u8 n).toNat:Int)];rw[hA.conv];have a:IntKind.u8.wrap n=n % 256:=IntKind.wrap_u8 n;have b:((u8 n).toNat:Int)=n % 256:=by unfold u8;rw[kZQ];omega
 grind
theorem pG{l:Bs}(q:Sl 5 cD h (.slice b m c) l)(C:m<=2^37)(z:Int)(u:∀h' d n' c',Le h h'->bA 5 cD h h' (.slice d n' c') (l++[u8 z])->k (.slice d n' c') h'):
 Ct 130 [.slice b m c,.zI z] h k:=by
 obtain⟨A,hA⟩:=Ar.ex;have n:=q.len;have v:=lD (A:=A) (h:=h) z;refine kh eKK A Tryz.func130 ?_;cbv;intro x g G e1;have e:Le h g:=zqs e1 G
 have o:=zqt e1;cbv;intro y r j f;have a:Le g r:=zqs f j
 have p:=zqt f;have t:([l,[u8 z]]:List Bs).flatten=l++[u8 z]:=io
 cbv;refine BH (L:=[l,[u8 z]]) (pf (s:=DS) rfl p (eU (q.mono ((e.trans a).t _))) (eU (bh (s:=cD) (a _ _ o) v))) gg (λB d n' c' w i=>?_);rw[t]at i;cbv;exact u _ _ _ _ ((e.trans a).trans w) (i.base (e.trans a))
def iJ(n:Int)(k:Nat):UInt8:=u8 (n % 18446744073709551616 / (2^(8*k)))
def cP(n:Int):Bs:=(List.range 8).map (iJ n)
theorem ck(n:Int):(cP n).length=8:=rfl
theorem uC(f:Nat->a)(h:i<n):((List.range n).map f).take (i+1)=((List.range n).map f).take i++[f i]:=by
 rw[kJG]
 grind
theorem pJ(n:Int):IntKind.u64.wrap n=n % 18446744073709551616:=by simp[IntKind.wrap,IntKind.bits,IntKind.signed]
theorem LU[hA:bM A](n:Int)(d:bg z i)(e:i<8):cD.R h [.int .u8 (A .conv .u8 (A .aX .shr .u64 (A .conv .u64 n) (A .aX .mul .i64 8 z)))] (iJ n i):=by
 have a:A .aX .mul .i64 8 z=((8*i:Nat):Int):=by rw[hA.aX,d.eq];show IntKind.i64.wrap (8*(i:Int))=_;rw[IntWalk.i64_in _ ip];omega
 have b:A .conv .u64 n=n % 18446744073709551616:=by rw[hA.conv];exact pJ n
 have c:A .aX .shr .u64 (A .conv .u64 n) (A .aX .mul .i64 8 z)=n % 18446744073709551616 / (2^(8*i)):=by
  rw[a,b,hA.aX];show(n % 18446744073709551616).fdiv (2^(min ((8*i:Nat):Int).toNat 64))=_
  grind
 rw[c];exact lD _
theorem Oq{l:Bs}(q:Sl e1 cD h (.slice b m c) l)(hm:m<=2^37)(n:Int)(R:∀h' a n' c',Le h h'->bA 5 cD h h' (.slice a n' c') (l++cP n)->k (.slice a n' c') h'):
 Ct 131 [.slice b m c,.zI n] h k:=by
 have j:=q.len;obtain⟨J,H⟩:∃J:Nat->(Int×Option Addr×Nat×Nat)->ad->Prop,∀w g h',J w g h'=(∃i,bg g.1 i/\i<=8/\w=8-i/\Le h h'/\bA 5 cD h h' (.slice g.2.1 g.2.2.1 g.2.2.2) (l++(cP n).take i)):=⟨_,λ_ _ _=>rfl⟩;refine cB eKJ Tryz.func131 λA hA=>?_;cbv;refine GZ q (λN v x T q1=>?_);have t:J 8 (0,v,m,x) N:=by rw[H];exact⟨0,⟨rfl⟩,ip,rfl,T,iu q1⟩
 cbv;refine ba.gz (G:=Int×Option Addr×Nat×Nat) (λg=>[(9,.v (.zI g.1)),(5,.v (.slice g.2.1 g.2.2.1 g.2.2.2))]) (λ_=>[]) (λw g h'=>J w g h') 8 (0,v,m,x) t ?_
 intro w g r I;rw[H]at I;cbv;obtain⟨z,E,M,F⟩:=g;obtain⟨i,d,K,hw,u,e⟩:=I;have d:bg z i:=d;have e:bA 5 cD h r (.slice E M F) (l++(cP n).take i):=e;have Y:=e.sl.len;rw[kXy,kJI,ck,<-j]at Y;have D:A .aQ .lss z 8=decide (i<8):=by rw[aV A,d.eq];grind
 have L:i<8->0<=A .aX .mul .i64 8 z:=λf=>by
  rw[hA.aX,d.eq];show 0<=IntKind.i64.wrap (8*(i:Int));rw[IntWalk.i64_in _ ip];omega
 have hR:=λf:i<8=>LU (A:=A) (h:=r) n d f;have O:=d.succ (A:=A);have V:=λf:i<8=>uC (iJ n) f;have V:i<8->(cP n).take (i+1)=(cP n).take i++[iJ n i]:=V;have o:∀h' m' a c',i<8->Le h h'->bA 5 cD h h' (.slice a m' c') (l++(cP n).take i++[iJ n i])->J (8-(i+1)) (A .aX .add .i64 z 1,a,m',c') h':=λh' m' a c' f l' q'=>by
  grind
 rw[D];by_cases Z:i<8
 .have hR:=hR Z;have L:=L Z;generalize iJ n i=y at *;rw[kS Z];clear H V t O;cbv;refine⟨L,?_⟩;cbv;intro X P C p;have B:Le r P:=zqs p C
  have q3:=bh (s:=cD) (zqt p) hR;clear p;cbv;refine(e.mono (B.t _)).app q3 dl rfl dl ip (u.trans B) (λm' a c' Q HL U t4 k4 q4=>?_);have S:=o Q m' a c' Z U q4;clear o;cbv;refine zqn (8-(i+1)) (_,a,m',c') ip S
 rw[kQW Z];have hi:i=8:=ip
 rw[kXe (by rw[ck];omega)]at e;clear H V t O o hR L;cbv;refine GZ e.sl (λh5 b5 c5 W q5=>?_);cbv;exact R _ _ _ _ (u.trans W) (q5.base u)
def fX(s:ByteArray):Bs:=(jZ s).take 65535
def gI(s:ByteArray):Bs:=[u8 (min s.size 65535:Nat),u8 ((min s.size 65535:Nat) / 256:Nat)]
theorem BS{e1:Nat}{l:Bs}(q:Sl 5 cD h (.slice b m c) l)(hm:m<=2^37)(s:ByteArray)(hs:s.size<=2^40)(p:∀h' a n' c',Le h h'->bA 5 cD h h' (.slice a n' c') (l++(gI s++fX s))->k (.slice a n' c') h'):
 Ct 132 [.slice b m c,.string s] h k:=by
 obtain⟨A,hA⟩:=Ar.ex;have r:=q.len;obtain⟨j,o⟩:∃j,j=min s.size 65535:=⟨_,rfl⟩;have H:A .mT (A .lW s) 65535=(j:Int):=by
  have:A .mT (A .lW s) 65535=min (s.size:Int) 65535:=by rw[hA.mT,hA.lW]
  omega
 obtain⟨t,f⟩:∃t,t=A .sub s 0 (j:Int):=⟨_,rfl⟩;have B:t=s.extract 0 j:=by rw[f,hA.sub];rfl
 have C:t.size=j:=by rw[B,ByteArray.size_extract];omega
 have R:jZ t=fX s:=by rw[B];unfold fX jZ;simp only[qM,kZP];rw[o];simp only[List.extract,kZD,kQQ];show List.take (min s.data.size 65535) _=_;rw[<-kZU,Nat.min_comm,<-List.take_eq_take_min]
 have y:A .lW t=(j:Int):=by rw[hA.lW];grind
 have D:0<=A .mT (A .lW s) 65535/\A .mT (A .lW s) 65535<=(s.size:Int):=by
  grind
 have d:t.size<=2^40:=ip
 have M:A .sub s 0 (A .mT (A .lW s) 65535)=t:=by rw[H,f]
 have Q:=lD (A:=A) (h:=h) (j:Int);have Z:=lD (A:=A) (h:=h) ((j / 256:Nat):Int);have X:A .aX .shr .i64 (j:Int) 8=((j / 256:Nat):Int):=by
  rw[hA.aX];show((j:Int)).fdiv (2^8)=_
  grind
 have u:gI s=[u8 (j:Int),u8 ((j / 256:Nat):Int)]:=by unfold gI;rw[<-o]
 rw[u]at p;clear B f u;refine kh eKI A Tryz.func132 ?_;cbv;refine⟨D,?_⟩;cbv;rw[M];refine⟨dl,?_⟩;cbv;rw[y,X];intro w i G e1;have N:Le h i:=zqs e1 G
 have E:=zqt e1;clear e1;cbv;refine xQ d (λn2 U m2 I zV V v T=>?_);cbv;intro P J z e;have g:Le I J:=zqs e z
 have F:=zqt e;have S:Sl 5 cD i (.slice (zsA w) 2 2) [u8 (j:Int),u8 ((j / 256:Nat):Int)]:=pf (s:=cD) rfl E Q Z;have n:=(N.trans v).trans g;have K:([l,[u8 (j:Int),u8 ((j / 256:Nat):Int)],jZ t]:List Bs).flatten=l++([u8 (j:Int),u8 ((j / 256:Nat):Int)]++fX s):=by rw[R];simp
 have Y:(l++([u8 (j:Int),u8 ((j / 256:Nat):Int)]++fX s)).length<=2^38:=by
  grind [fX]
 clear e;cbv;refine BH (L:=[l,[u8 (j:Int),u8 ((j / 256:Nat):Int)],jZ t]) (gT (s:=DS) rfl F (eU (q.mono (n.t _))) (eU (S.mono ((v.trans g).t _))) (eU (T.mono (g.t _)))) gg (λW a n' c' O x=>?_);rw[K]at x;cbv;exact p _ _ _ _ (n.trans O) (x.base n)
abbrev St:=Option Bs
def uv(r:Em):St:=if r.e=0 then some r.b else none
def fw(n:Nat):St->Bs×St
 |none=>([],none)
 |some b=>if n<=b.length then(b.take n,some (b.drop n))else([],none)
theorem Co(n:Nat)(r:Em):(kA n r).1=(fw n (uv r)).1/\uv (kA n r).2=(fw n (uv r)).2:=by
 grind [kA,uv,sC,fw]
def aR(n:Nat)(s:St):Nat×St:=(nL (fw n s).1,(fw n s).2)
def bq(s:St):Bs×St:=fw (aR 2 s).1 (aR 2 s).2
def GM(e:Int)(s:St):St:=if e=0 then s else none
theorem th(n:Nat)(s:St):(fw n s).1.length<=n:=by
 cases s with
 |none=>simp[fw]
 |some b=>
  grind [fw]
theorem xV(n:Nat)(s:St):(aR n s).1<256^n:=by have h:=FZ (fw n s).1;exact Nat.lt_of_lt_of_le h (Nat.pow_le_pow_right ip (th n s))
theorem Ui(x:Int)(r:Em):uv (sC x r)=GM x (uv r):=by
 grind [hx,sC,GM,uv]
structure gR(h:ad)(p:Nat)(s:St):Prop where
 out:∃r,HX h p r/\uv r=s
theorem gR.le{s:St}(q:gR h p s)(l:Le h h'):gR h' p s:=by obtain⟨r,a,b⟩:=q.out;exact⟨r,a.le l,b⟩
theorem gR.lt{s:St}(q:gR h p s)(k:Kp [p] h h')(e:411∉tys):cX tys h h':=by obtain⟨r,a,b⟩:=q.out;exact a.lt k e
theorem Wd{xs:Bs}{len:Nat}(q:Sl e1 cD h (.slice b len cap) xs)
 (a:∀h' p,h p=none->Le h h'->gR h' p (some xs)->k (.zP p) h'):
 Ct 141 [.slice b len cap] h k:=
 hXw q λh' p h0 l c=>a h' p h0 l ⟨_,c,rfl⟩
theorem Tz{s:St}(q:gR h p s)(x:Int)(a:∀h',Kp [p] h h'->gR h' p (GM x s)->k (.tuple #[]) h'):
 Ct 336 [.zP p,.zI x] h k:=by
 obtain⟨r,c,rfl⟩:=q.out;exact bJQ c x λh' b d=>a h' b ⟨_,d,Ui x r⟩
theorem CD(r:Em):(oA n r).1=IntKind.i64.wrap ((aR n (uv r)).1:Int)/\uv (oA n r).2=(aR n (uv r)).2:=by
 grind [Co,oA,aR]
theorem bXH{s:St}(q:gR h p s)(a:∀h',Kp [p] h h'->gR h' p (aR 8 s).2->k (.zI (IntKind.i64.wrap ((aR 8 s).1:Int))) h'):
 Ct 258 [.zP p] h k:=by
 obtain⟨r,c,rfl⟩:=q.out;have:=CD (n:=8) r;exact hXz c λh' b d=>this.1 ▸ a h' b ⟨_,d,this.2⟩
theorem fQy{s:St}(q:gR h p s)(c:∀h',Kp [p] h h'->gR h' p (aR 1 s).2->k (.zI ((aR 1 s).1:Int)) h'):
 Ct 142 [.zP p] h k:=by
 obtain⟨r,e,rfl⟩:=q.out;have a:=CD (n:=1) r;have g:=xV 1 (uv r);have b:(oA 1 r).1=((aR 1 (uv r)).1:Int):=by rw[a.1,IntWalk.i64_in _ ip]
 exact fQz e λh' d f=>b ▸ c h' d ⟨_,f,a.2⟩
theorem eQE{s:St}(q:gR h p s)(d:∀h',Kp [p] h h'->gR h' p (bq s).2->k (.string (strOf (bq s).1)) h'):
 Ct 263 [.zP p] h k:=by
 obtain⟨r,g,rfl⟩:=q.out;have c:=CD (n:=2) r;have j:=xV 2 (uv r);have a:(oA 2 r).1.toNat=(aR 2 (uv r)).1:=by rw[c.1,IntWalk.i64_in _ ip];omega
 have b:=Co (oA 2 r).1.toNat (oA 2 r).2;rw[a,c.2]at b;have e1:(Io r).1=(bq (uv r)).1:=by unfold Io;rw[a];exact b.1
 have e:uv (Io r).2=(bq (uv r)).2:=by unfold Io;rw[a];exact b.2
 exact eQF g λh' f i=>e1 ▸ d h' f ⟨_,i,e⟩
theorem Ot{s:St}(q:gR h p s)(a:∀e:Int,(e=0↔s=some [])->k (.zI e) h):
 Ct 147 [.zP p] h k:=by
 obtain⟨r,b,rfl⟩:=q.out
 grind [hXA,aQy,uv]
end Go.S
namespace Go.Sx
variable {h h':ad}
def ep(ex:List Nat)(h h':ad):Prop:=∀b o,h b=some o->(∀c e fr,o=.cells c e fr->e∉ex)->h' b=some o
theorem Le.x(l:Le h h')(ex:List Nat):ep ex h h':=λb o a _=>l b o a
theorem ep.trans{ex:List Nat}{a b c:ad}(x:ep ex a b)(y:ep ex b c):ep ex a c:=λk o q n=>y k o (x k o q n) n
theorem ep.refl(ex:List Nat)(h:ad):ep ex h h:=λ_ _ x _=>x
theorem ep.t{ex:List Nat}(x:ep ex h h'){tys:List Nat}(hd:∀t∈tys,t∉ex):cX tys h h':=λb c e fr m a=>x b _ a (λc' d L f=>gg)
theorem Kp.x{ex:List Nat}{bs:List Nat}(k:Kp bs h h')(a:∀b∈bs,∀o,h b=some o->∃c e fr,o=.cells c e fr/\e∈ex):ep ex h h':=λb o x V=>by
 by_cases m:b∈bs
 .grind
 exact k b o x m
theorem jM{d:Type}{e:Nat}{s:Sh d}{l:Nat}{A:Ar}[bM A]{bytes:Nat}{z:List Value}{x:d}{k:Value->ad->Prop}(hx:∀h,s.R h z x)(hl:l<=2^40)(f:bytes<=128)
 (b:∀n h',h n=none->Le h h'->dt e s h' n l (List.replicate l x)->k (.slice (zsA n) l l) h'):
 rk h e (A .nat l) (A .nat l) bytes z k:=by
 have c:=s.len (hx h);have S:(2:Nat)^40=1099511627776:=rfl;have W:(2:Int)^48=281474976710656:=rfl;rw[bM.nat (A:=A)];refine⟨gg,⟨gg,?_⟩,λn h' e1 a=>?_⟩
 .rw[W];simp only[kZn];have:bytes*l<=128*l:=kZg _ f
  grind
 simp only[kZn,kJL]at a |-;have M:(iT l z).length=l*s.n:=by rw[gF,c]
 refine b n h' e1 (zqs a e1) ⟨⟨iT l z,by rw[a,ae],⟨by rw[M];simp,λi y g=>?_⟩,M⟩,io,iu hl⟩;have j:i<l:=gg
 have P:y=x:=by
  grind
 subst P;have key:((iT l z).drop (0+i*s.n)).take s.n=z:=by
  clear a b M g;rw[kJe,<-c];induction i generalizing l with
  |zero=>
   obtain⟨m,rfl⟩:∃m,l=m+1:=⟨l-1,ip⟩
   grind [iT]
  |succ i o=>
   obtain⟨m,rfl⟩:∃m,l=m+1:=⟨l-1,ip⟩;show((z++iT m z).drop ((i+1)*z.length)).take z.length=z;rw[kZi,rK,<-kJO,nX]
   grind
 grind
end Go.Sx
namespace Go.S
open Go.Sx Go.Proofs
variable {n:Int}{i p:Nat}{k:Value->ad->Prop}{h h':ad}
def aT(b:Bs):List Value:=b.map λx=>.int .u8 (x.toNat:Int)
theorem iX:∀b:Bs,jL (aT b)=true
 | []=>rfl
 |x::r=>by show jL (_::aT r)=true;unfold jL;exact iX r
def pN:Sh Bs where
 n:=64
 R _ cs b:=cs=aT b/\b.length=64
 len:=by grind [aT]
 one:=by grind [iX]
 tys:=[]
 mono:=λ_ q=>q
def Hn:Bs:=List.replicate 64 0
def Um:Sh (Int×Bs)where
 n:=65
 R _ cs w:=cs=.zI w.1::aT w.2/\w.2.length=64
 len:=by grind [aT]
 one:=by rintro h cs b ⟨rfl,-⟩;unfold jL;exact iX _
 tys:=[]
 mono:=λ_ q=>q
structure Dk where
 left:Int
 dead:Bool
 kept:List Bs
 now:List Bs
 ws:List (Int×Bs)
abbrev dT:List Nat:=[94,211,213]
structure oa(h:ad)(p:Nat)(D:Dk):Prop where
 out:∃kb nb wb wn wc d,h p=zcL 94 [.zI D.left,.zU d,.slice (zsA kb) D.now.length D.now.length,.slice (zsA nb) D.now.length D.now.length,.slice wb wn wc]/\
  dt 211 pN h kb D.now.length D.kept/\dt 211 pN h nb D.now.length D.now/\D.kept.length=D.now.length/\kb≠nb/\d=(if D.dead then 1 else 0)/\
  bA 213 Um (λ_=>none) h (.slice wb wn wc) D.ws/\D.now.length<=4096
theorem oa.lt{D:Dk}(q:oa h p D)(l:cX dT h h'):oa h' p D:=by obtain⟨k,n,wb,c,wc,d,g,o1,o2,e1,e,a,w,b⟩:=q.out;exact⟨k,n,wb,c,wc,d,l _ _ _ _ dl g,o1.mono (l.sub),o2.mono (l.sub),e1,e,a,w.mono (l.sub),b⟩
theorem oa.le{D:Dk}(q:oa h p D)(l:Le h h'):oa h' p D:=q.lt (l.t _)
theorem aXL{D:Dk}(q:oa h p D)(a:∀z,bg z D.now.length->k (.zI z) h):Ct 174 [.zP p] h k:=by obtain⟨A,hA⟩:=Ar.ex;obtain⟨i,n,wb,j,wc,d,g,o1,o2,e1,e,c,w,f⟩:=q.out;have b:=bg.nat (A:=A) D.now.length;generalize D.now.length=m at *;refine kh eJZ A Tryz.func174 ?_;cbv;rw[av A];refine cy g ?_;cbv;exact a _ b
theorem bJS{D:Dk}(q:oa h p D)(b:k (.bool D.dead) h):Ct 175 [.zP p] h k:=by
 obtain⟨j,n,wb,l,wc,d,g,o1,o2,e1,e,c,w,f⟩:=q.out;have hd:decide (d≠0)=D.dead:=gg
 generalize D.dead=t at *;refine cB eJY Tryz.func175 λA hA=>?_;cbv;rw[av A];refine(oH (cJ g rfl)).mono (λv i hR=>?_);obtain⟨t',rfl,a,rfl⟩:=hR;rw[hd]at a;subst a;cbv;exact b
def fH(D:Dk)(n:Int)(size:Int):Int:=if D.dead then 15 else if n<0\/n>=D.now.length\/size>64 then 1 else 0
theorem NP{D:Dk}(q:oa h p D)(n size:Int)(a:k (.zI (fH D n size)) h):Ct 287 [.zP p,.zI n,.zI size] h k:=by
 obtain⟨A,hA⟩:=Ar.ex;obtain⟨x,y,wb,z,wc,d,g,o1,o2,e1,o,s,w,u⟩:=q.out;have i:A .aQ .lss n 0=decide (n<0):=aV A ..;have f:A .aQ .geq n (A .nat D.now.length)=decide (n>=D.now.length):=by rw[cF A,hA.nat];rfl
 have j:A .aQ .gtr size 64=decide (size>64):=bF A ..;have P:fH D n size=if D.dead then 15 else if n<0\/n>=D.now.length\/size>64 then 1 else 0:=rfl
 generalize fH D n size=r at *;generalize v:D.now.length=m at *;generalize l:D.dead=t at *;refine kh eZe A Tryz.func287 ?_;cbv;rw[av A];refine bJS q ?_;rw[l];cbv;cases t with
 |true=>have P:r=15:=P;subst P;cbv;exact a
 |false=>
  have P:r=if n<0\/n>=(m:Int)\/size>64 then 1 else 0:=P
  by_cases c:n<0
  .rw[if_pos (.inl c)]at P;subst P;cbv;rw[i,kS c];cbv;exact a
  by_cases b:n>=(m:Int)
  .rw[if_pos (.inr (.inl b))]at P;subst P;rw[kS b]at f;cbv;rw[i,kQW c];cbv;rw[av A];refine cy g ?_;cbv;rw[f];cbv;exact a
  rw[kQW b]at f;by_cases e:size>64
  .rw[if_pos (.inr (.inr e))]at P;subst P;cbv;rw[i,kQW c];cbv;rw[av A];refine cy g ?_;cbv;rw[f];cbv;rw[j,kS e];cbv;exact a
  rw[if_neg (λh=>h.elim c (λh=>h.elim b e))]at P;subst P;cbv;rw[i,kQW c];cbv;rw[av A];refine cy g ?_;cbv;rw[f];cbv;rw[j,kQW e];cbv;exact a
theorem dt.elem{A:Ar}[hA:bM A]{e a cap:Nat}{xs:List Bs}(o:dt e pN h a cap xs){b:Bs}(hx:xs[i]? =some b)(u:n=(i:Int)):Sl e cD h (.slice (some (A .jt (zsA a) n 64)) 64 64) b:=by
 obtain⟨c,g,r,v⟩:=o.out;have p:=r.2 i b hx;obtain⟨d,f⟩:=p;have q:A .jt (zsA a) n 64=⟨a,i*64,none⟩:=by have:A .jt=Sx.jt:=hA.jt;rw[this,u];simp[jt,cQ]
 rw[q];have k:=r.1;have s:i<xs.length:=(HH.1 hx).1;have l:i*64+64<=c.length:=by have:(i+1)*64<=xs.length*64:=kZg _ s;have k:0+xs.length*64<=c.length:=k;omega
 refine⟨_,64,by rw[f],gg,by rw[f];omega,.inr ⟨a,i*64,_,_,rfl,g,?_,λj x w=>?_⟩⟩
 .show i*64+b.length*1<=c.length;omega
 have Z:j<64:=gg
 show((c.drop (i*64+j*1)).take 1)=_;have d:(c.drop (0+i*64)).take 64=aT b:=d;rw[kJe]at d;apply kZq;intro m;rw[kZo,kXz];by_cases t:m<1
 .have E:m=0:=ip
  subst E;rw[if_pos t];have:=congrArg (λz=>z[j]?) d
  grind [aT]
 grind
def dF(D:Dk)(n:Int):Bs:=(D.now[n.toNat]?).getD []
theorem aXy{D:Dk}(q:oa h p D)(n:Int)
 (z:fH D n 0≠0->k (.tuple #[.zN,.zI (fH D n 0)]) h)
 (S:fH D n 0=0->∀h' b c,Le h h'->(dF D n).length=64->bA 5 cD h h' (.slice b 64 c) (dF D n)->k (.tuple #[.slice b 64 c,.zI 0]) h'):
 Ct 172 [.zP p,.zI n] h k:=by
 obtain⟨A,hA⟩:=Ar.ex;obtain⟨I,s,wb,J,wc,d,g,o1,o2,e1,F,G,w,H⟩:=q.out;have y:A .aQ .neq (fH D n 0) 0=decide (fH D n 0≠0):=aJ A ..;have f:fH D n 0=0->bg n n.toNat/\n.toNat<D.now.length:=λa=>by
  unfold fH at a;split at a
  .cases a
  split at a
  .cases a
  rename_i o;have e:¬n<0:=λg=>o (.inl g);have l:¬n>=(D.now.length:Int):=λg=>o (.inr (.inl g));exact⟨⟨ip⟩,ip⟩
 have Q:fH D n 0=0->Sl 211 cD h (.slice (some (A .jt (zsA s) n 64)) 64 64) (dF D n):=λa=>by
  obtain⟨e,l⟩:=f a;obtain⟨x,hx⟩:=ay (xs:=D.now) (i:=n.toNat) l;have:dF D n=x:=by unfold dF;rw[hx];rfl
  rw[this];exact dt.elem o2 hx e.eq
 have L:fH D n 0=0->True/\0<=n/\n<(D.now.length:Int):=λa=>⟨trivial,(f a).1.ix (f a).2⟩;have L:fH D n 0=0->(some (⟨s,0,none⟩:Addr)).isSome=true/\0<=n/\n<(D.now.length:Int):=λa=>⟨rfl,(L a).2⟩;clear f;generalize D.now.length=m at *;refine kh eKb A Tryz.func172 ?_;cbv;refine NP q n 0 ?_;generalize fH D n 0=r at *;cbv;rw[y];by_cases j:r≠0
 .rw[kS j];have B:=z j;cbv;exact B
 have u:r=0:=ip
 have Q:=Q u;have S:=S u;generalize dF D n=b at *;rw[kQW j];cbv;rw[av A];refine cy g ?_;cbv;refine⟨L u,?_⟩;cbv;refine GZ Q (λe t v C E=>?_);have:=S e t v C Q.len.symm E;cbv;exact this
abbrev W:=BitVec 32
structure lM(z:Int)(x:W):Prop where
 eq:z=(x.toNat:Int)
section
variable {A:Ar}[hA:bM A]{z w:Int}{x y:W}
theorem zB(n:Int):IntKind.u32.wrap n=n % 4294967296:=by simp[IntKind.wrap,IntKind.bits,IntKind.signed]
theorem uk(x:W):BitVec.ofInt 32 (x.toNat:Int)=x:=by
 grind
theorem Rf(x:W):((x.toNat:Int)) % 4294967296=x.toNat:=by have:=x.isLt;omega
theorem lM.add(h:lM z x)(g:lM w y):lM (A .aX .add .u32 z w) (x+y):=⟨by
 rw[hA.aX,h.eq,g.eq];show IntKind.u32.wrap _=_;rw[zB,BitVec.toNat_add];omega⟩
theorem lM.xor(h:lM z x)(g:lM w y):lM (A .aX .xor .u32 z w) (x^^^y):=⟨by
 rw[hA.aX,h.eq,g.eq];show IntKind.u32.wrap (((BitVec.ofInt 32 (x.toNat:Int)^^^BitVec.ofInt 32 (y.toNat:Int)).toNat:Nat):Int)=_;rw[uk,uk,zB,Rf]⟩
theorem lM.and(h:lM z x)(g:lM w y):lM (A .aX .and .u32 z w) (x&&& y):=⟨by
 rw[hA.aX,h.eq,g.eq];show IntKind.u32.wrap (((BitVec.ofInt 32 (x.toNat:Int)&&& BitVec.ofInt 32 (y.toNat:Int)).toNat:Nat):Int)=_;rw[uk,uk,zB,Rf]⟩
theorem lM.or(h:lM z x)(g:lM w y):lM (A .aX .or .u32 z w) (x|||y):=⟨by
 rw[hA.aX,h.eq,g.eq];show IntKind.u32.wrap (((BitVec.ofInt 32 (x.toNat:Int)|||BitVec.ofInt 32 (y.toNat:Int)).toNat:Nat):Int)=_;rw[uk,uk,zB,Rf]⟩
theorem lM.not(h:lM z x):lM (A .aX .xor .u32 4294967295 z) (~~~x):=⟨by
 rw[hA.aX,h.eq];show IntKind.u32.wrap (((BitVec.ofInt 32 (4294967295:Int)^^^BitVec.ofInt 32 (x.toNat:Int)).toNat:Nat):Int)=_;rw[uk,zB,Rf];have:BitVec.ofInt 32 (4294967295:Int)=BitVec.allOnes 32:=dl
 rw[this,BitVec.allOnes_xor]⟩
theorem lM.shr(h:lM z x)(a:bg n i)(b:i<32):lM (A .aX .shr .u32 z n) (x >>> i):=⟨by
 rw[hA.aX,h.eq,a.eq];show((x.toNat:Int)).fdiv (2^(min ((i:Int)).toNat 32))=_;rw[show min ((i:Int)).toNat 32=i by omega,kJd _ (Int.le_of_lt (Int.pow_pos dl)),BitVec.toNat_ushiftRight,Nat.shiftRight_eq_div_pow];norm_cast⟩
theorem lM.shl(h:lM z x)(a:bg n i)(b:i<=32):lM (A .aX .shl .u32 z n) (x <<< i):=⟨by
 rw[hA.aX,h.eq,a.eq];show IntKind.u32.wrap ((x.toNat:Int)*2^(min ((i:Int)).toNat 32))=_;rw[show min ((i:Int)).toNat 32=i by omega,zB,BitVec.toNat_shiftLeft,Nat.shiftLeft_eq]
 grind⟩
theorem lM.bZo{v:Int}{b:UInt8}(h:v=(b.toNat:Int)):lM (A .conv .u32 v) (BitVec.ofNat 32 b.toNat):=⟨by
 rw[hA.conv,h]
 grind [zB]⟩
end
def qf:Sh W where
 n:=1
 R _ cs x:=∃z,cs=[.zU z]/\lM z x
 len:=gg
 one:=by rintro h cs x ⟨z,rfl,-⟩;rfl
 tys:=[]
 mono:=λ_ q=>q
def rr(x:W)(n:Nat):W:=x >>> n|||x <<< (32-n)
def gQp(x:W):W:=rr x 7^^^rr x 18^^^x >>> 3
def gQo(x:W):W:=rr x 17^^^rr x 19^^^x >>> 10
def iZR(x:W):W:=rr x 6^^^rr x 11^^^rr x 25
def iZS(x:W):W:=rr x 2^^^rr x 13^^^rr x 22
def jJc(e f g:W):W:=(e&&& f)^^^(~~~e&&& g)
def gXv(a b c:W):W:=(a&&& b)^^^(a&&& c)^^^(b&&& c)
def bw(b:Bs)(i:Nat):W:=BitVec.ofNat 32 (b.getD i 0).toNat
def WW(b:Bs)(i:Nat):W:=bw b (4*i) <<< 24|||bw b (4*i+1) <<< 16|||bw b (4*i+2) <<< 8|||bw b (4*i+3)
def wF(b:Bs)(i:Nat):W:=
 if i<16 then WW b i else if 16<=i then wF b (i-16)+gQp (wF b (i-15))+wF b (i-7)+gQo (wF b (i-2))else 0
 termination_by i
 decreasing_by all_goals omega
def HD:List W:=[0x428a2f98#32,0x71374491#32,0xb5c0fbcf#32,0xe9b5dba5#32,0x3956c25b#32,0x59f111f1#32,0x923f82a4#32,0xab1c5ed5#32,
 0xd807aa98#32,0x12835b01#32,0x243185be#32,0x550c7dc3#32,0x72be5d74#32,0x80deb1fe#32,0x9bdc06a7#32,0xc19bf174#32,
 0xe49b69c1#32,0xefbe4786#32,0x0fc19dc6#32,0x240ca1cc#32,0x2de92c6f#32,0x4a7484aa#32,0x5cb0a9dc#32,0x76f988da#32,
 0x983e5152#32,0xa831c66d#32,0xb00327c8#32,0xbf597fc7#32,0xc6e00bf3#32,0xd5a79147#32,0x06ca6351#32,0x14292967#32,
 0x27b70a85#32,0x2e1b2138#32,0x4d2c6dfc#32,0x53380d13#32,0x650a7354#32,0x766a0abb#32,0x81c2c92e#32,0x92722c85#32,
 0xa2bfe8a1#32,0xa81a664b#32,0xc24b8b70#32,0xc76c51a3#32,0xd192e819#32,0xd6990624#32,0xf40e3585#32,0x106aa070#32,
 0x19a4c116#32,0x1e376c08#32,0x2748774c#32,0x34b0bcb5#32,0x391c0cb3#32,0x4ed8aa4a#32,0x5b9cca4f#32,0x682e6ff3#32,
 0x748f82ee#32,0x78a5636f#32,0x84c87814#32,0x8cc70208#32,0x90befffa#32,0xa4506ceb#32,0xbef9a3f7#32,0xc67178f2#32]
structure W8 where
 a:W
 b:W
 c:W
 d:W
 e:W
 f:W
 g:W
 h:W
def W8.l(t:W8):List W:=[t.a,t.b,t.c,t.d,t.e,t.f,t.g,t.h]
def mE:W8:=⟨0x6a09e667#32,0xbb67ae85#32,0x3c6ef372#32,0xa54ff53a#32,0x510e527f#32,0x9b05688c#32,0x1f83d9ab#32,0x5be0cd19#32⟩
def dXC(t:W8)(k w:W):W:=t.h+iZR t.e+jJc t.e t.f t.g+k+w
def gQu(t:W8):W:=iZS t.a+gXv t.a t.b t.c
def bKG(t:W8)(k w:W):W8:=⟨dXC t k w+gQu t,t.a,t.b,t.c,t.d+dXC t k w,t.e,t.f,t.g⟩
def yY(b:Bs)(t:W8):Nat->W8
 |0=>t
 |i+1=>bKG (yY b t i) (HD.getD i 0) (wF b i)
def W8.add(t s:W8):W8:=⟨t.a+s.a,t.b+s.b,t.c+s.c,t.d+s.d,t.e+s.e,t.f+s.f,t.g+s.g,t.h+s.h⟩
def HW(s:W8)(b:Bs):W8:=(yY b s 64).add s
def nK(n:Nat):Nat:=(119-n % 64) % 64
def NV(n:Nat):Bs:=(List.range 8).map λi=>u8 ((n*8 % 2^64 / 2^(56-8*i):Nat):Int)
def FN(b:Bs):Bs:=b++[128]++List.replicate (nK b.length) 0++NV b.length
def ku(s:W8)(b:Bs):W8:=if h:64<=b.length then ku (HW s (b.take 64)) (b.drop 64)else s
 termination_by b.length
 decreasing_by grind
def wB(w:W)(i:Nat):UInt8:=u8 ((w >>> (24-8*i)).toNat:Int)
def Uy(s:W8):Bs:=s.l.flatMap λw=>(List.range 4).map (wB w)
def Ul(b:Bs):Bs:=Uy (ku mE (FN b))
theorem wP(s:W8):(Uy s).length=32:=rfl
theorem gu(b:Bs):(Ul b).length=32:=wP _
def Bc(b:Bs):Bs:=Ul (0::b)
def AD(a b:Bs):Bs:=Ul (1::(a++b))
def De(k n:Nat):Nat:=if h:2*k<n/\0<k then De (2*k) n else k
 termination_by n-k
 decreasing_by omega
def BF(n:Nat):Nat:=De 1 n
theorem Ta(k n:Nat)(hk:0<k)(hn:k<n):De k n<n/\0<De k n:=by
 unfold De;split
 .rename_i h;exact Ta (2*k) n ip h.1
 grind
 termination_by n-k
theorem EI{n:Nat}(h:2<=n):BF n<n/\0<BF n:=Ta 1 n ip ip
def gW(l:List Bs):Bs:=
 match l with
 | []=>Ul []
 | [x]=>x
 |x::y::r=>AD (gW ((x::y::r).take (BF (r.length+2)))) (gW ((x::y::r).drop (BF (r.length+2))))
 termination_by l.length
 decreasing_by
 .have:=EI (n:=r.length+2) ip
  grind
 have:=EI (n:=r.length+2) ip
 grind
def dZ(s:ByteArray):Bs:=gI s++fX s
def ju(v:jq):Bs:=u8 v.k::(if v.k=1 then [u8 v.n]else if v.k=2 then cP v.n else if v.k=3 then dZ v.s else [])
def gH(r:Row):Bs:=u8 (r.length:Int)::r.flatMap ju
def VF(id:Int)(seq:Nat)(c:cR):Bs:=cP id++cP (seq:Int)++[u8 c.op]++dZ c.table++dZ (strOf (gH c.row))
def df(id:Int)(seq:Nat)(c:cR):Bs:=Bc (VF id seq c)
def iW(id:Int)(l:List cR):List Bs:=l.mapIdx (df id)
def fa(id:Int)(l:List cR):Bs:=gW (iW id l)
def ko(id:Int)(l:List cR):Bs:=Bc (cP id++cP (l.length:Int)++fa id l)
structure nV where
 n:Int
 prev:Bs
 root:Bs
 count:Int
def aXc(b:nV):Bs:=cP b.n++b.prev++b.root++cP b.count
def eo(b:nV):Bs:=Ul (aXc b)
end Go.S
