import Derived.Test.YthnbpiejemlbeaaGreatGA
import Derived.Laws.BytesArg
import Derived.Laws.IdiomStrings
set_option linter.all false
set_option maxRecDepth 100000
set_option maxHeartbeats 8000000
namespace Go.Sx
variable {bytes e e1 n size:Nat}{k:Value->ab->Prop}{h:ab}
theorem mG{j:Type}{s:Sh j}{x:Option Addr}{m:Nat}{xs:List j}(q:Sl e1 s h (.slice x n m) xs){a:Option Addr}(E:size=s.n)(R:bytes<=128)
  (M:n=0->k (.slice a 0 0) h)
 (B:∀b cap h',h b=none->0<n->Le h h'->cA e s h' b cap xs->k (.slice (some ⟨b,0,none⟩) n cap) h'):fS h a 0 0 x n size bytes e k:=by
 subst E;obtain⟨cs,t,f,u,v⟩:=q.jq;have g:=q.len;obtain⟨H,y⟩:=q.bound;refine⟨cs,t,u,λz=>?_,λA=>?_⟩
 .have i:n=0:=by omega
  have o:cs=[]:=List.eq_nil_of_length_eq_zero (by rw[f,i];simp);subst i;exact .inl ⟨o,M rfl⟩
 refine⟨?_,?_,[],.inl ⟨by simp,rfl⟩,λb c h' r e1 w p d=>?_⟩
 .have N:(2:Nat)^40=1099511627776:=rfl;have Q:(2:Nat)^48=281474976710656:=rfl;have:2*(0+n)*bytes<=2*(0+n)*128:=Nat.mul_le_mul_left _ R;omega
 .have N:(2:Nat)^40=1099511627776:=rfl;have Q:(2:Nat)^48=281474976710656:=rfl;omega
 have l:Le h h':=by rw[d];exact Le.set e1
 have:=B b c h' e1 (by omega) l ⟨⟨cs++r,?_,?_,?_⟩,by omega,by omega⟩
 .simpa using this
 .rw[d,ae];simp
 .have:=v h' (l.t _) [] r;simpa using this
 simp only[List.length_append,f,p];rw[<-Nat.add_mul];congr 1;omega
theorem aU.app{H:Type}{s:Sh H}{h0:ab}{b x:Option Addr}{len cap L:Nat}{xs ys:List H}(q:aU e s h0 h (.slice b len cap) xs)(G:Sl e1 s h (.slice x n L) ys)(O:e∉s.tys)(M:size=s.n)(S:bytes<=128)(P:len+n<=2^39)
  (d:Le h0 h) (v:∀m f c' h',m=len+n->Le h0 h'->(∀tys,e∉tys->bV tys h h')->(∀j o,h j=some o->(cap=0\/b≠some ⟨j,0,none⟩\/∀c fr,o≠.cells c e fr)->h' j=some o)->aU e s h0 h' (.slice f m c') (xs++ys)->k (.slice f m c') h'):
 fS h b len cap x n size bytes e k:=by
 subst M;obtain⟨cs,K,p,y,z⟩:=G.jq;have l:=q.sl.len;have E:=G.len;have g:cap<len+n->qX h b len cap n s.n bytes e cs k:=λA=>by
  refine pL q.sl A rfl S P y p (ys:=ys) (by rw[E];exact Nat.le_refl _) (λh' hl=>?_) (λD c h' e1 r U o=>?_)
  .have:=z h' (hl.t _) [] [];simpa using this
  exact v _ _ _ h' rfl (d.trans r) (λtys _=>r.t tys) (λj o a _=>r j o a) (o.buf (d.none e1) (by rw[List.length_append,l,E]))
 refine⟨cs,K,?_⟩;by_cases W:len+n<=cap
 .refine⟨y,λ_=>?_,λA=>by omega⟩;by_cases C:n=0
  .have I:cs=[]:=List.eq_nil_of_length_eq_zero (by rw[p,C];simp);have J:ys=[]:=List.eq_nil_of_length_eq_zero (by omega);refine .inl ⟨I,v _ _ _ h rfl d (λ_ _=>bV.refl _ _) (λ_ _ a _=>a) ?_⟩;rw[J,List.append_nil,C];exact q
  rcases q.out with⟨f,t,u⟩|⟨D,V,t,u,o⟩
  .cases t;omega
  cases t;refine .inr ⟨⟨D,xs.length*s.n,none⟩,by simp[bP],?_⟩;have Q:Rows s h cs 0 ys:=by have:=z h (bV.refl _ _) [] [];simpa using this
  refine o.write (ys:=ys) O (i:=xs.length) (by omega) (by omega) (by omega) (by rw[p,E]) Q (λh' B R o'=>?_);rw[List.take_length,List.drop_eq_nil_of_le (by omega),List.append_nil]at o';refine v _ _ _ h' rfl (d.aE (by simpa using u) B) R (λj T a F=>?_) (o'.buf u (by rw[List.length_append,E]));refine B j T a ?_;intro w;simp at w;rcases F with F|F|F
  .omega
  .exact F (by rw[w])
  obtain⟨c,N,-⟩:=o.out;rw[w,N]at a;cases a;exact F _ _ rfl
 exact g (by omega)
end Go.Sx
namespace Go.S
open Go.Sx Go.Proofs
variable {a:Type}{A:Ar}{f:FuncId}{z:Int}{tys:List Nat}{cl cs fl:List Value}{xs:List a}{c cap e e1 i m n o p:Nat}{b:Option Addr}{s:Sh a}{k:Value->ab->Prop}{h h':ab}{Q:ab->Prop}
def bL:Sh UInt8 where
 n:=1
 R _ cs x:=cs=[.int .u8 (x.toNat:Int)]
 len:=by rintro h cs x rfl;rfl
 one:=by rintro h cs x rfl;rfl
 tys:=[]
 mono:=λ_ q=>q
abbrev Bs:=List UInt8
theorem CR{xs:Bs}{len:Nat}(q:Sl e1 bL h (.slice b len cap) xs)
 (d:∀h' f c',Le h h'->aU 5 bL h h' (.slice f len c') xs->k (.slice f len c') h'):
 Ct 254 [.slice b len cap] h k:=by
 refine an dXJ Tryz.func254 λA hA=>?_;cbv;refine aJ (λa=>?_) (λa=>?_)
 .rw[hA.yP]at a;cbv;have m:b=none:=by cases b<;>simp at a |-
  subst m;have hl:len=0:=by
   rcases Nat.eq_zero_or_pos len with e|e
   .exact e
   have:=q.aQ e;cases this
  have:=q.len;have hx:xs=[]:=List.eq_nil_of_length_eq_zero (by omega);subst hx hl;exact d _ _ _ (Le.refl _) aU.nil
 cbv;intro r j C s;have l:Le h j:=by rw[s];exact Le.set C
 cbv;refine mG (q.mono (l.t _)) rfl (by decide) (λn=>?_) (λt c p e1 o g i=>?_)
 .cbv;have:=q.len;have hx:xs=[]:=List.eq_nil_of_length_eq_zero (by omega);subst hx n;exact d _ _ _ l aU.nil
 cbv;exact d _ _ _ (l.trans g) (i.buf (l.none e1) q.len)
theorem bZa{p:Unit->Program}{u bs:List Value}(e:u=bs)(q:Dr p f u h k):Dr p f bs h k:=e ▸ q
theorem cQr{b:Nat}(w:mj h ⟨b,o,none⟩ (.int .u32 0))(x:mj h ⟨b,o+1,none⟩ (.int .i32 0))
 (N:∀i,Up h b (o+1) (.int .i32 1) i->Ct f (fl++cl) i (λv c=>v=.tuple #[]/\mj c ⟨b,o,none⟩ (.int .u32 0)/\mj c ⟨b,o+1,none⟩ (.int .i32 1)/\Q c)) (p:aw f=true:=by kernel_rfl):
 Ct 244 [.pointer (some ⟨b,o,none⟩),.func (.func f) fl.toArray cl.toArray] h (λv h'=>v=.tuple #[]/\∃c d,Q c/\Up c b o (.int .u32 1) d/\Up d b (o+1) (.int .i32 0) h'):=by
 obtain⟨A,hA⟩:=Ar.ex;obtain⟨K,G⟩:∃g,g=aw:=⟨_,rfl⟩;have tk:fF Tryz.prog ⟨ty,K,Qc.au,Qc.aN,λ_=>false,[],λ_ _ _=>False⟩:=by rw[G];exact ai _ _
 have P:K f=true:=by rw[G];exact p
 have m:K 325=true:=by rw[G];kernel_rfl
 have l:K 243=true:=by rw[G];kernel_rfl
 have k:K 77=true:=by rw[G];kernel_rfl
 have j:K 326=true:=by rw[G];kernel_rfl
 clear G p;refine lS A tk Tryz.func244 rfl (by kernel_rfl) ?_;cbv;rw[al A,m];cbv;refine(FK x).mono (λv i hR=>?_);obtain⟨rfl,u⟩:=hR;have S:=u.other (by omega) w;cbv;rw[al A];rw[al A,l];cbv;refine(me S).mono (λv c hR=>?_);obtain⟨t,rfl,n,rfl⟩:=hR;have n:t=false:=by rw[n];rfl
 subst n;cbv;rw[hA.not];cbv;rw[al A,P];cbv;refine bZa (by cases fl with|nil=>cases cl<;>rfl|cons a t=>exact(show a::(t++cl)=a::((t++[])++cl)by rw[List.append_nil])) ((N _ u).mono (λv c hR=>?_));obtain⟨rfl,q,r,s⟩:=hR;cbv;rw[k];cbv;refine(yu q).mono (λv d hR=>?_);obtain⟨-,X⟩:=hR;have Y:=X.other (by omega) r;cbv;rw[j];cbv;refine(uT Y).mono (λv y hR=>?_);obtain⟨-,e⟩:=hR;cbv;exact⟨rfl,c,d,s,X,e⟩
theorem iQP{b:Nat}(q:mj h ⟨b,o,none⟩ (.int .u32 0))(i:mj h ⟨b,o+1,none⟩ (.int .i32 0))
 (N:∀d,Up h b (o+1) (.int .i32 1) d->Ct f (fl++cl) d (λv a=>v=.tuple #[]/\mj a ⟨b,o,none⟩ (.int .u32 0)/\mj a ⟨b,o+1,none⟩ (.int .i32 1)/\Q a)) (g:aw f=true:=by kernel_rfl):
 Ct 126 [.pointer (some ⟨b,o,none⟩),.func (.func f) fl.toArray cl.toArray] h (λv h'=>v=.tuple #[]/\∃a e,Q a/\Up a b o (.int .u32 1) e/\Up e b (o+1) (.int .i32 0) h'):=by
 have sl:=cQr q i N g;clear N g;generalize Z:(Value.func (.func f) fl.toArray cl.toArray)=j at sl |-;refine an AD Tryz.func126 λA hA=>?_;clear Z;cbv;rw[al A];refine(me q).mono (λv a hR=>?_);obtain⟨t,rfl,c,rfl⟩:=hR;have c:t=false:=by rw[c];rfl
 subst c;cbv;rw[hA.not];cbv;refine sl.mono (λv a hR=>?_);obtain⟨rfl,hR⟩:=hR;cbv;exact⟨rfl,hR⟩
theorem cKn{c:Value}{b:Nat}(q:mj h ⟨b,o,none⟩ (.int .u32 1)):
 Ct 126 [.pointer (some ⟨b,o,none⟩),c] h (λv h'=>v=.tuple #[]/\h'=h):=by
 refine an AD Tryz.func126 λA hA=>?_;cbv;rw[al A];refine(me q).mono (λv d hR=>?_);obtain⟨t,rfl,a,rfl⟩:=hR;have a:t=true:=by rw[a];rfl
 subst a;cbv;rw[hA.not];cbv;exact⟨rfl,True.intro⟩
theorem bKD{ty:Nat}{c:List Value}(g:h p=some (.cells (List.toArray c) ty (0,0)))(n:c[o]? =some (.int .u32 0))(q:c[o+1]? =some (.int .i32 0))
 (N:∀d,d=bu h p (.cells (List.toArray (c.set (o+1) (.int .i32 1))) ty (0,0))->Ct f (fl++cl) d (λv a=>v=.tuple #[]/\∃c':List Value,a p=some (.cells (List.toArray c') ty (0,0))/\c'[o]? =some (.int .u32 0)/\c'[o+1]? =some (.int .i32 1)/\
  k (.tuple #[]) (bu a p (.cells (List.toArray ((c'.set o (.int .u32 1)).set (o+1) (.int .i32 0))) ty (0,0))))) (s:aw f=true:=by kernel_rfl):
 Ct 126 [.pointer (some ⟨p,o,none⟩),.func (.func f) fl.toArray cl.toArray] h k:=by
 refine(iQP (f:=f) (fl:=fl) (cl:=cl) (Q:=λa=>∃c':List Value,a p=some (.cells (List.toArray c') ty (0,0))/\k (.tuple #[]) (bu a p (.cells (List.toArray ((c'.set o (.int .u32 1)).set (o+1) (.int .i32 0))) ty (0,0)))) (bY g n) (bY g q) (λd u=>?_) s).mono (λv x hR=>?_)
 .refine(N d (u.exp g)).mono (λv a hR=>?_);obtain⟨e,c',b,m,e1,i⟩:=hR;exact⟨e,bY b m,bY b e1,c',b,i⟩
 obtain⟨rfl,a,w,⟨c',b,i⟩,t,u3⟩:=hR;have j:=t.exp b;have r:=(congrFun j p).trans ae;have l:=u3.exp r;rw[j,dD]at l;rw[l];exact i
structure AF where
 b:Bs
 e:Int
structure DQ(h:ab)(p:Nat)(r:AF):Prop where
 out:∃bb n c d,h p=some (.cells (List.toArray [.slice bb n c,.int .i64 r.e,.int .u32 d,.int .i32 0,.int .u32 0]) 411 (0,0))/\Sl 5 bL h (.slice bb n c) r.b/\((r.e=0/\d=0)\/(r.e≠0/\d=1))
theorem DQ.le{r:AF}(q:DQ h p r)(l:Le h h'):DQ h' p r:=by obtain⟨bb,n,c,d,g,s,hd⟩:=q.out;exact⟨bb,n,c,d,l _ _ g,s.mono (l.t _),hd⟩
structure dKk(p:Nat)(h h':ab):Prop where
 kp:Kp [p] h h'
 ty:∃c e fr,h p=some (.cells c e fr)/\∃c' JK,h' p=some (.cells c' e JK)
theorem Ce(k:Kp [p] h h'){c:Array Value}{fr:Nat×Nat}(g:h p=some (.cells c e fr))(i:e∉tys):bV tys h h':=λb d j J m a=>
 k b _ a (by intro f;simp at f;rw[f,g]at a;cases a;exact i m)
theorem DQ.lt{r:AF}(q:DQ h p r)(k:Kp [p] h h')(e:411∉tys):bV tys h h':=by obtain⟨bb,n,c,d,g,-,-⟩:=q.out;exact Ce k g e
def oK(e:Int)(r:AF):AF:=if e≠0/\r.e=0 then⟨r.b,e⟩else r
theorem cJV{a b:Nat}{x:Int}{t j:Nat}{s1 s2 s3 s y:Value}(d:h a=some (.cells #[.int .i64 x] t (0,0)))(g:h b=some (.cells #[.pointer (some ⟨c,0,none⟩)] j (0,0)))
 (e:h c=some (.cells (List.toArray [s1,y,s2,s3,s]) 411 (0,0)))  (i:k (.tuple #[]) (bu h c (.cells (List.toArray [s1,.int .i64 x,s2,s3,s]) 411 (0,0)))):
 Ct 365 [.pointer (some ⟨a,0,none⟩),.pointer (some ⟨b,0,none⟩)] h k:=by
 refine an cKQ Tryz.func365 λA hA=>?_;cbv;refine ak g ?_;cbv;refine ak d ?_;cbv;rw[al A];refine jr e (by simp) (λh' f=>?_);subst f;cbv;exact i
theorem aJa{r:AF}(q:DQ h p r)(x:Int)(m:∀h',Kp [p] h h'->DQ h' p (oK x r)->k (.tuple #[]) h'):
 Ct 336 [.pointer (some ⟨p,0,none⟩),.int .i64 x] h k:=by
 obtain⟨bb,n,c,d,g,s,hd⟩:=q.out;have W:=s.bound;refine an dQn Tryz.func336 λA hA=>?_;cbv;intro b y w e1;cbv;intro i a U j;have B:Le h y:=by rw[e1];exact Le.set w
 have C:Le y a:=by rw[j];exact Le.set U
 have F:=B.trans C;have t:a i=some (.cells #[.int .i64 x] 33 (0,0)):=by rw[j];exact ae
 have o:a b=some (.cells #[.pointer (some ⟨p,0,none⟩)] 296 (0,0)):=C _ _ (by rw[e1];exact ae);have l:=F _ _ g;have E:b≠p:=λe=>by rw[e,g]at w;cases w
 have G:i≠p:=λe=>by rw[e,B _ _ g]at U;cases U
 have D:A .ay .neq x 0=decide (x≠0):=av A ..;clear e1 j;cbv;refine ak t ?_;cbv;rw[D];by_cases hx:x≠0
 .rw[decide_eq_true hx];cbv;refine ak o ?_;cbv;rw[al A];rcases hd with⟨he,rfl⟩|⟨he,rfl⟩
  .refine bKD (f:=365) (fl:=[]) (cl:=[.pointer (some ⟨i,0,none⟩),.pointer (some ⟨b,0,none⟩)]) l rfl rfl (λz u=>?_);have J:z i=some (.cells #[.int .i64 x] 33 (0,0)):=by rw[u,bN G];exact t
   have X:z b=some (.cells #[.pointer (some ⟨p,0,none⟩)] 296 (0,0)):=by rw[u,bN E];exact o
   have K:=(congrFun u p).trans ae;refine cJV J X K ⟨rfl,_,ae,rfl,rfl,?_⟩;rw[u,dD,dD];have P:oK x r=⟨r.b,x⟩:=if_pos ⟨hx,he⟩;have kp:Kp [p] a (bu a p (.cells (List.toArray [.slice bb n c,.int .i64 x,.int .u32 1,.int .i32 0,.int .u32 0]) 411 (0,0))):=Kp.set (by simp);have:=m _ ((F.kp _).trans kp) (by rw[P];exact⟨bb,n,c,1,ae,(s.mono (F.t _)).mono (Ce kp l (by decide)),.inr ⟨hx,rfl⟩⟩);cbv;exact this
  refine(cKn (bY l rfl)).mono (λv H hR=>?_);obtain⟨rfl,rfl⟩:=hR;cbv;exact m _ (F.kp _) (by rw[show oK x r=r from if_neg (λg=>he g.2)];exact q.le F)
 rw[decide_eq_false hx];cbv;exact m _ (F.kp _) (by rw[show oK x r=r from if_neg (λg=>hx g.1)];exact q.le F)
theorem fKS{xs:Bs}{len:Nat}(q:Sl e1 bL h (.slice b len cap) xs)
 (m:∀h' p,h p=none->Le h h'->DQ h' p ⟨xs,0⟩->k (.pointer (some ⟨p,0,none⟩)) h'):
 Ct 141 [.slice b len cap] h k:=by
 refine an dJx Tryz.func141 λA hA=>?_;cbv;refine CR q (λi d f l n=>?_);cbv;intro p j a e;have c:Le i j:=by rw[e];exact Le.set a
 have g:=(congrFun e p).trans ae;cbv;exact m _ p (l.none a) (l.trans c) ⟨d,len,f,0,g,n.sl.mono (c.t _),.inl ⟨rfl,rfl⟩⟩
theorem _root_.Go.Sx.Sl.sg[hA:bf A](q:Sl e s h (.slice b n c) xs)(j:i<=n)(k:m=i):
 Sl e s h (.slice (A .cut b 0 z s.n) m c) (xs.take i):=by
 have d:=(q.po (A:=A) (z:=z) j (m:=i) (c':=i) rfl rfl).out;obtain⟨l,cap,e1,o,f,g⟩:=d;subst k;have p:=q.bound;have hl:(xs.take m).length=m:=by rw[List.length_take,<-q.len];omega
 refine⟨A .cut b 0 z s.n,c,by rw[hl],by rw[hl];omega,f,?_⟩;simp only[Value.slice.injEq]at e1;rw[e1.1];exact g
def iT(n:Nat)(r:AF):Bs×AF:=if n>r.b.length then([],oK 8 r)else if r.e≠0 then([],r)else(r.b.take n,⟨r.b.drop n,0⟩)
theorem RJ{r:AF}(q:DQ h p r)(f:aK z n)
 (a:∀h' b m c,Kp [p] h h'->Sl 5 bL h' (.slice b m c) (iT n r).1->DQ h' p (iT n r).2->k (.slice b m c) h'):
 Ct 335 [.pointer (some ⟨p,0,none⟩),.int .i64 z] h k:=by
 obtain⟨A,hA⟩:=Ar.ex;obtain⟨bb,m,c,d,g,s,hd⟩:=q.out;have W:=s.bound;have y:=s.len;have fn:A .ay .gtr z (A .nat m)=decide (n>m):=by rw[aX A,hA.nat,f.eq];exact decide_eq_decide.2 (by rw[Int.ofNat_eq_natCast];omega)
 have E:n<=m->0<=z/\z<=(c:Int):=λv=>by have:=f.eq;omega
 have G:n<=m->0<=z/\z<=(m:Int):=λv=>by have:=f.eq;omega
 have x:=cM (A:=A) f;have C:=bQ (A:=A) (n:=m) f;have D:=bQ (A:=A) (n:=c) f;refine bB dQo A Tryz.func335 ?_;cbv;rw[al A];refine ak g ?_;cbv;rw[fn];by_cases B:n>m
 .have P:iT n r=([],oK 8 r):=if_pos (by omega);rw[P]at a;rw[decide_eq_true B];cbv;refine aJa q 8 (λi l w=>?_);have F:(oK 8 r).e≠0:=by
   unfold oK;split
   .exact(by decide:(8:Int)≠0)
   rename_i v;intro e;exact v ⟨by decide,e⟩
  obtain⟨o,Q⟩:∃o,o=oK 8 r:=⟨_,rfl⟩;rw[<-Q]at w F a;obtain⟨J,N,M,x,u,s1,L⟩:=w.out;have t:A .ay .neq o.e 0=decide (o.e≠0):=av A ..;cbv;rw[al A];refine ak u ?_;cbv;rw[t,decide_eq_true F];cbv;exact a _ _ _ _ l Sl.nil w
 have t:A .ay .neq r.e 0=decide (r.e≠0):=av A ..;rw[decide_eq_false B];cbv;rw[al A];refine ak g ?_;cbv;rw[t];by_cases j:r.e≠0
 .have P:iT n r=([],r):=by unfold iT;rw[if_neg (by omega),if_pos j]
  rw[P]at a;rw[decide_eq_true j];cbv;exact a _ _ _ _ (Kp.refl _ _) Sl.nil q
 have K:r.e=0:=by omega
 have P:iT n r=(r.b.take n,⟨r.b.drop n,0⟩):=by unfold iT;rw[if_neg (by omega),if_neg j]
 rw[P]at a;rw[decide_eq_false j];cbv;rw[al A];refine ak g ?_;cbv;refine⟨E (by omega),?_⟩;cbv;rw[al A];refine ak g ?_;cbv;refine⟨G (by omega),?_⟩;cbv;rw[al A];refine jr g (by simp) (λi e1=>?_);have l:Kp [p] h i:=by rw[e1];exact Kp.set (by simp)
 have lt:bV [5] h i:=Ce l g (by decide);have u:=(congrFun e1 p).trans ae;have H:Sl 5 bL i (.slice (A .cut bb 0 (A .nat c) 1) n c) (r.b.take n):=(s.mono lt).sg (by omega) rfl;have I:Sl 5 bL i (.slice (A .cut bb z (A .nat c) 1) (m-n) (c-n)) (r.b.drop n):=(s.mono lt).iH f (by omega) rfl rfl;clear e1;cbv;rw[x];refine a _ _ _ _ l H ⟨_,_,_,d,?_,I,.inl ⟨rfl,by rcases hd with⟨_,e⟩|⟨e,_⟩<;>simp_all⟩⟩;rw[u,K];show some (Obj.cells (List.toArray [_,_,_,_,_]) _ _)=_;rw[C,D]
def lq:Bs->Nat
 | []=>0
 |b::r=>b.toNat+256*lq r
theorem Cc:∀l:Bs,lq l<256^l.length
 | []=>by simp[lq]
 |b::r=>by
  have h:=Cc r;have a:=b.toNat_lt;simp only[lq,List.length_cons,Nat.pow_succ];omega
theorem MH:∀(l:Bs) (b:UInt8),lq (l++[b])=lq l+b.toNat*256^l.length
 | [],b=>by simp[lq]
 |a::r,b=>by
  simp only[List.cons_append,lq,MH r b,List.length_cons,Nat.pow_succ];rw[Nat.mul_add,Nat.mul_comm (256^r.length) 256,<-Nat.mul_assoc,<-Nat.mul_assoc,Nat.mul_comm 256 b.toNat];omega
theorem aKd(i:Nat):256^i=2^(8*i):=by rw[Nat.pow_mul]
theorem pf{x:Nat}(h:x<2^64):IntKind.u64.wrap (x:Int)=(x:Int):=by have:(2:Nat)^64=18446744073709551616:=rfl;exact IntWalk.u64_in _ (by omega)
theorem Sc{b:Nat}(g:i<8)(f:b<256):aC .shl .u64 (b:Int) ((8*i:Nat):Int)=((b*256^i:Nat):Int):=by
 have h:b*256^i<2^64:=by
  have a:(256:Nat)^i<=256^7:=Nat.pow_le_pow_right (by omega) (by omega);have:b*256^i<=255*256^7:=Nat.mul_le_mul (by omega) a;have e:(255:Nat)*256^7<2^64:=by decide
  omega
 show IntKind.u64.wrap ((b:Int)*2^(min ((8*i:Nat):Int).toNat 64))=_;have c:min ((8*i:Nat):Int).toNat 64=8*i:=by omega
 rw[c];have d:(b:Int)*2^(8*i)=((b*256^i:Nat):Int):=by rw[aKd];push_cast;rfl
 rw[d,pf h]
theorem Yj{a b:Nat}(k:i<8)(d:a<256^i)(j:b<256):aC .or .u64 (a:Int) ((b*256^i:Nat):Int)=((a+b*256^i:Nat):Int):=by
 have f:(256:Nat)^i<=256^7:=Nat.pow_le_pow_right (by omega) (by omega);have h0:b*256^i<=255*256^i:=Nat.mul_le_mul (by omega) (Nat.le_refl _);have g:(256:Nat)*256^7=2^64:=by decide
 have h:a+b*256^i<2^64:=by omega
 show IntKind.u64.wrap (((BitVec.ofInt 64 (a:Int)|||BitVec.ofInt 64 ((b*256^i:Nat):Int)).toNat:Nat):Int)=_;have c:(BitVec.ofInt 64 (a:Int)|||BitVec.ofInt 64 ((b*256^i:Nat):Int)).toNat=a+b*256^i:=by
  rw[BitVec.toNat_or,BitVec.toNat_ofInt,BitVec.toNat_ofInt];have e1:(((a:Int) % ((2^64:Nat):Int)).toNat)=a:=by rw[<-Int.natCast_emod,Int.toNat_natCast,Nat.mod_eq_of_lt (by omega)]
  have e:((((b*256^i:Nat):Int) % ((2^64:Nat):Int)).toNat)=b*256^i:=by rw[<-Int.natCast_emod,Int.toNat_natCast,Nat.mod_eq_of_lt (by omega)]
  rw[e1,e,Nat.or_comm];have:=Nat.two_pow_add_eq_or_of_lt (i:=8*i) (b:=a) (by rw[<-aKd];exact d) b;rw[<-aKd]at this;rw[Nat.mul_comm b,<-this,Nat.add_comm]
 rw[c,pf h]
theorem Sd{x:UInt8}(q:bL.R h cs x):∃z,cs=[.int .u8 z]/\bL.R h [.int .u8 z] x:=⟨_,q,rfl⟩
def lN(n:Nat)(r:AF):Int×AF:=(IntKind.i64.wrap (lq (iT n r).1:Int),(iT n r).2)
theorem Ed(n:Nat)(r:AF):(iT n r).1.length<=n:=by
 unfold iT;split
 .simp
 split
 .simp
 simp only[List.length_take];omega
theorem FE{r:AF}(q:DQ h p r)(C:aK z n)(hn:n<=8)
 (B:∀h',Kp [p] h h'->DQ h' p (lN n r).2->k (.int .i64 (lN n r).1) h'):
 Ct 261 [.pointer (some ⟨p,0,none⟩),.int .i64 z] h k:=by
 refine an dXC Tryz.func261 λA hA=>?_;cbv;refine RJ q C (λf b m c Y s1 q1=>?_);have hl:=Ed n r;have N:=s1.len;have P:lN n r=(IntKind.i64.wrap (lq (iT n r).1:Int),(iT n r).2):=rfl;rw[P]at B;clear P;generalize iT n r=D at *;obtain⟨l,r1⟩:=D;have hl:l.length<=n:=hl;have N:m=l.length:=N;have s1:Sl 5 bL f (.slice b m c) l:=s1;have K:∀z:Int,z=((lq l:Nat):Int)->k (.int .i64 (A .conv .i64 z)) f:=λz C=>by
  have:=B f Y q1;rw[hA.conv,C];exact this
 obtain⟨J,Z⟩:∃J:Nat->(Int×Int)->ab->Prop,∀w g h',J w g h'=(h'=f/\∃i,aK g.1 i/\i<=m/\w=m-i/\g.2=((lq (l.take i):Nat):Int)):=⟨_,λ_ _ _=>rfl⟩;have y:J m (0,0) f:=by rw[Z];exact⟨rfl,0,⟨rfl⟩,Nat.zero_le _,rfl,rfl⟩
 clear B;cbv;refine aG.go (G:=Int×Int) (λg=>[(12,.v (.int .i64 g.1)),(5,.v (.int .u64 g.2))]) (λ_=>[]) (λw g h'=>J w g h') m (0,0) (by constructor<;>cbv) y ?_
 intro w g L M;rw[Z]at M;cbv;obtain⟨a,u⟩:=g;obtain⟨ru,i,d,QA,hw,o⟩:=M;subst ru;have d:aK a i:=d;have o:u=((lq (l.take i):Nat):Int):=o;have S:A .ay .lss a (A .nat m)=decide (i<m):=d.vh (aK.nat m);have Q:i<m->b.isSome=true/\0<=a/\a<(m:Int):=λj=>⟨s1.aQ,d.ix j⟩;have t:=λj=>d.succ (A:=A) j;have W:0<=A .aC .mul .i64 8 a:=by rw[hA.aC,d.eq];show 0<=IntKind.i64.wrap (8*(i:Int));rw[IntWalk.i64_in _ (by omega)];omega
 have T:∀(x:UInt8) (v:Int),l[i]? =some x->bL.R L [.int .u8 v] x->A .aC .or .u64 u (A .aC .shl .u64 (A .conv .u64 v) (A .aC .mul .i64 8 a))=((lq (l.take (i+1)):Nat):Int):=λx v hx X=>by
  have X:v=(x.toNat:Int):=by cases X;rfl
  subst X;have gh:i<l.length:=(List.getElem?_eq_some_iff.1 hx).1;have e1:A .aC .mul .i64 8 a=((8*i:Nat):Int):=by rw[hA.aC,d.eq];show IntKind.i64.wrap (8*(i:Int))=_;rw[IntWalk.i64_in _ (by omega)];omega
  have JB:=x.toNat_lt;have R:A .conv .u64 (x.toNat:Int)=(x.toNat:Int):=by rw[hA.conv];exact pf (by omega)
  have F:lq (l.take i)<256^i:=by have:=Cc (l.take i);rwa[List.length_take,Nat.min_eq_left (by omega)]at this
  rw[e1,R,hA.aC,Sc (by omega) (by omega),o,Yj (by omega) F (by omega),List.take_add_one,hx];show _=((lq (l.take i++[x]):Nat):Int);rw[MH,List.length_take,Nat.min_eq_left (by omega)]
 have I:∀E,E=((lq (l.take (i+1)):Nat):Int)->i<m->J (m-(i+1)) (A .aC .add .i64 a 1,E) L:=λE e j=>by rw[Z];exact⟨rfl,i+1,t (by omega),j,rfl,e⟩
 have O:=d.eq;have U:=K u;clear K;cbv;rw[S];by_cases F:i<m
 .obtain⟨x,hx⟩:=bn l i;rw[decide_eq_true F];clear Z y t U;cbv;refine⟨Q F,?_⟩;cbv;refine s1.load hx O (λcs H=>?_);obtain⟨v,X,hR⟩:=Sd H;subst X;have V:=I _ (T x v hx hR) F;clear I T hR H;cbv;refine⟨W,?_⟩;cbv;refine⟨m-(i+1),(A .aC .add .i64 a 1,_),by omega,by constructor<;>cbv,V⟩
 have:i=l.length:=by omega
 have s:=U (by rw[o,this,List.take_length]);clear Z I T y t U;rw[decide_eq_false F];cbv;exact s
def strOf(l:Bs):ByteArray:=⟨l.toArray⟩
def jn(s:ByteArray):Bs:=s.data.toList
theorem vW:Tryz.prog.underlying 5=some (.int .u8):=by kernel_rfl
theorem uh:Tryz.prog.underlying 176=some (.slice 5):=by kernel_rfl
theorem tK:Tryz.prog.underlying 9=some .string:=by kernel_rfl
theorem qi{l:Bs}(q:Sl e1 bL h (.slice b n c) l)(p:k (.string (strOf l)) h):
 ef (λ_=>Tryz.prog) (λ_=>Go.convert 176 9 (.slice b n c)) h k:=by
 have r:=q.len;subst r;refine⟨λw e=>⟨_,w,h,?_,p,bD.refl e⟩⟩;obtain⟨s,cap,e1,t,u,m⟩:=q.out;cases e1;rcases m with rfl| ⟨kE,off,cc,fr,rfl,g,i⟩
 .cases b with
  |none=>exact run_convert_bytes_nil w _ _ uh vW _ _ _ tK
  |some a=>exact run_convert_bytes_back w _ _ _ a c [] uh vW tK (λj d=>absurd d (by simp))
 refine run_convert_bytes_back w _ _ _ ⟨kE,off,none⟩ c l uh vW tK (λj d=>?_);have hx:=i.2 j l[j] (by simp[d]);have hx:((cc.toList.drop (off+j*1)).take 1)=[.int .u8 (l[j].toNat:Int)]:=hx;have o:cc[off+j]? =some (.int .u8 (l[j].toNat:Int)):=by have:=congrArg (λz=>z[0]?) hx;simpa[List.getElem?_take,List.getElem?_drop]using this
 have f:(⟨kE,off,none⟩:Addr).add j=⟨kE,off+j,none⟩:=by simp[Addr.add]
 rw[f];simp[World.cell?,e _ _ g,o]
theorem tN{s:ByteArray}(e:s.size<=2^40)(d:∀n c m h',m=s.size->h n=none->Le h h'->Sl 5 bL h' (.slice (some ⟨n,0,none⟩) m c) (jn s)->k (.slice (some ⟨n,0,none⟩) m c) h'):
 ef (λ_=>Tryz.prog) (λ_=>Go.convert 9 176 (.string s)) h k:=by
 refine⟨λw b=>?_⟩;have Z:=run_bytes_of_string (P:=Tryz.prog) w 9 176 5 s tK uh vW;have I:s.size<=grownCap w s.size 0 5:=grownCap_ge w _ _ _;generalize grownCap w s.size 0 5=cap at Z I;have U:h w.heap.size=none:=b.ma (Nat.le_refl _);have mC:s.size=(jn s).length:=(Array.length_toList (xs:=s.data)).symm;refine⟨_,_,bu h w.heap.size (.cells (bytesRow s cap) 5 ((bytesRow s cap).size,(bytesRow s cap).size+1)),Z,d _ _ _ _ rfl U (Le.set U) ?_,?_⟩
 .refine⟨_,cap,by rw[mC],by rw[<-mC];exact I,by rw[<-mC];exact e,.inr ⟨_,0,_,_,rfl,ae,?_,λi x hx=>?_⟩⟩
  .show 0+(jn s).length*1<=_;rw[<-mC];unfold bytesRow;rw[Array.toList_append,List.length_append,Array.length_toList,Array.size_map];show 0+s.data.size*1<=_;omega
  have g:i<(jn s).length:=(List.getElem?_eq_some_iff.1 hx).1;show(((bytesRow s cap).toList.drop (0+i*1)).take 1)=_;unfold bytesRow;apply List.ext_getElem?;intro j;rw[List.getElem?_take,List.getElem?_drop];by_cases a:j<1
  .rw[if_pos a];have C:j=0:=by omega
   subst C;rw[Array.toList_append,List.getElem?_append_left (by rw[Array.length_toList,Array.size_map];have:i<s.data.toList.length:=g;rw[Array.length_toList]at this;omega)];have A:s.data.toList[i]? =some x:=hx;simp only[Array.toList_map,List.getElem?_map,Nat.zero_add,Nat.add_zero,Nat.mul_one,A,Option.map_some];rfl
  rw[if_neg a];rw[List.getElem?_eq_none (by simp;omega)]
 have:=bD.new (h:=h) (w:=w.drew) b (.cells (bytesRow s cap) 5 ((bytesRow s cap).size,(bytesRow s cap).size+1));exact⟨this.os,this.tape,this.output,this.size,this.Bf,this.frame⟩
theorem fKU{r:AF}(q:DQ h p r)(b:∀h',Kp [p] h h'->DQ h' p (lN 8 r).2->k (.int .i64 (lN 8 r).1) h'):
 Ct 258 [.pointer (some ⟨p,0,none⟩)] h k:=by
 refine an dXF Tryz.func258 λA hA=>?_;cbv;refine FE (n:=8) q ⟨rfl⟩ (by decide) (λa c d=>?_);have:=b a c d;generalize lN 8 r=D at *;cbv;exact this
theorem dKv{r:AF}(q:DQ h p r)(b:∀h',Kp [p] h h'->DQ h' p (lN 1 r).2->k (.int .i64 (lN 1 r).1) h'):
 Ct 142 [.pointer (some ⟨p,0,none⟩)] h k:=by
 refine an dJw Tryz.func142 λA hA=>?_;cbv;refine FE (n:=1) q ⟨rfl⟩ (by decide) (λa c d=>?_);have:=b a c d;generalize lN 1 r=D at *;cbv;exact this
def Ec(r:AF):Bs×AF:=iT (lN 2 r).1.toNat (lN 2 r).2
theorem Tf(r:AF):aK (lN 2 r).1 (lN 2 r).1.toNat/\(lN 2 r).1.toNat<65536:=by
 have b:=Cc (iT 2 r).1;have h:=Ed 2 r;have c:256^(iT 2 r).1.length<=256^2:=Nat.pow_le_pow_right (by omega) h;have a:(lN 2 r).1=(lq (iT 2 r).1:Int):=by show IntKind.i64.wrap _=_;rw[IntWalk.i64_in _ (by omega)]
 rw[a];exact⟨⟨by omega⟩,by omega⟩
theorem cKF{r:AF}(q:DQ h p r)(a:∀h',Kp [p] h h'->DQ h' p (Ec r).2->k (.string (strOf (Ec r).1)) h'):
 Ct 263 [.pointer (some ⟨p,0,none⟩)] h k:=by
 refine an dXA Tryz.func263 λA hA=>?_;cbv;refine FE (n:=2) q ⟨rfl⟩ (by decide) (λv f i=>?_);have e:=(Tf r).1;have a:∀h',Kp [p] h h'->DQ h' p (iT (lN 2 r).1.toNat (lN 2 r).2).2->k (.string (strOf (iT (lN 2 r).1.toNat (lN 2 r).2).1)) h':=a;generalize lN 2 r=D at *;obtain⟨z,u⟩:=D;generalize z.toNat=n at *;cbv;refine RJ i e (λd b m c g s2 j=>?_);have o:=a d (f.trans g) j;generalize iT n u=D at *;obtain⟨l,w⟩:=D;generalize s:strOf l=t at *;cbv;refine qi s2 ?_;rw[s];cbv;exact o
def Vd(r:AF):Int:=if r.e=0/\r.b≠[]then 9 else r.e
theorem fKV{r:AF}(q:DQ h p r)(a:k (.int .i64 (Vd r)) h):
 Ct 147 [.pointer (some ⟨p,0,none⟩)] h k:=by
 obtain⟨A,hA⟩:=Ar.ex;obtain⟨bb,m,c,d,g,s,hd⟩:=q.out;have l:=s.len;have i:A .ay .eql r.e 0=decide (r.e=0):=aq A ..;have j:A .ay .gtr (A .nat m) 0=decide (r.b≠[]):=by
  rw[aX A,hA.nat];refine decide_eq_decide.2 ?_;rw[Int.ofNat_eq_natCast,l];constructor
  .intro h e;rw[e]at h;simp at h
  intro h;have:=List.length_pos_iff.2 h;omega
 refine bB dJt A Tryz.func147 ?_;cbv;rw[al A];refine ak g ?_;cbv;rw[i];by_cases f:r.e=0
 .rw[decide_eq_true f];cbv;rw[al A];refine ak g ?_;cbv;rw[j];by_cases b:r.b≠[]
  .rw[show Vd r=9 from if_pos ⟨f,b⟩]at a;rw[decide_eq_true b];cbv;exact a
  rw[show Vd r=r.e from if_neg (λg=>b g.2)]at a;rw[decide_eq_false b];cbv;rw[al A];refine ak g ?_;cbv;exact a
 rw[show Vd r=r.e from if_neg (λg=>f g.1)]at a;rw[decide_eq_false f];cbv;rw[al A];refine ak g ?_;cbv;exact a
def eXv:List Nat:=[5,100,211,210,224]
def Ah:Sh Bs where
 n:=1
 R h cs xs:=∃v,cs=[v]/\∃e∈eXv,Sl e bL h v xs
 len:=by rintro h cs x ⟨v,rfl,-⟩;rfl
 one:=by rintro h cs x ⟨v,rfl,e,-,q⟩;obtain⟨b,cap,rfl,-⟩:=q.out;rfl
 tys:=eXv
 mono:=by rintro h h' cs x hl ⟨v,rfl,e,he,q⟩;exact⟨v,rfl,e,he,q.mono (hl.sub λt ht=>by simp[bL]at ht;rw[ht];exact he)⟩
theorem dE{v:Value}{xs:Bs}(q:Sl e bL h v xs)(a:e∈eXv:=by decide):Ah.R h [v] xs:=⟨v,rfl,e,a,q⟩
theorem cJK(d:aK z m)(k:m<=2^38):
 Ct 330 [.slice none 0 0,.int .i64 z] h (λv h'=>Le h h'/\∃b c',v=.slice b 0 c'/\aU 5 bL h h' (.slice b 0 c') ([]:Bs)):=by
 obtain⟨A,hA⟩:=Ar.ex;have h0:aK (A .nat 0) 0:=aK.nat 0;have a:=d.sub (A:=A) (h0.sub (A:=A) h0 (by omega) (by omega)) (by omega) (by omega);simp only[Nat.sub_zero,Nat.sub_self]at a;refine bB dQs A Tryz.func330 ?_;cbv;rw[d.vf (A:=A)];cbv;generalize e:A .ay .gtr (A .aC .sub .i64 z (A .aC .sub .i64 (A .nat 0) (A .nat 0))) 0=u;generalize g:A .aC .sub .i64 z (A .aC .sub .i64 (A .nat 0) (A .nat 0))=w at a e;rw[aX A]at e;cases u with
 |true=>
  have n:=of_decide_eq_true e;have V:0<m:=by have:=a.eq;omega
  cbv;have C:(0:Int)<=A .nat 0/\A .nat 0<=((0:Nat):Int):=by have:=h0.eq;omega
  refine⟨C,?_⟩;cbv;refine⟨tA a (by omega) (by decide),?_⟩;cbv;rw[cM (A:=A) a,cM (A:=A) h0];refine mH (s:=bL) (xs:=([]:Bs)) Sl.nil (by omega) rfl (by decide) (by omega) rfl rfl (λq c i p l j o=>?_);rw[Nat.zero_add];have f:(0:Int)<=A .nat 0/\A .nat 0<=((c:Nat):Int):=by have:=h0.eq;omega
  cbv;refine⟨f,?_⟩;cbv;rw[cM (A:=A) h0,tp (A:=A)];exact⟨l,_,_,rfl,o.buf p rfl⟩
 |false=>cbv;exact⟨Le.refl _,_,_,rfl,aU.nil⟩
theorem xH{L:List (Bs)}(q:Sl 176 Ah h (.slice b n c) L)(R:L.flatten.length<=2^38)(r:∀h' o n' c',Le h h'->aU 5 bL h h' (.slice o n' c') L.flatten->k (.slice o n' c') h'):
 Ct 249 [.slice b n c] h k:=by
 obtain⟨D,Z⟩:∃D,D=k:=⟨_,rfl⟩;rw[<-Z];have O:=r;rw[<-Z]at O;clear r;have C:=q.len;obtain⟨jH,fN⟩:=q.bound;refine an dXN Tryz.func249 λA hA=>?_;cbv;refine aG.go (G:=Int×Int) (λg=>[(11,.v (.int .i64 g.1)),(3,.v (.int .i64 g.2))]) (λ_=>[])
  (λk g h'=>∃i:Nat,aK g.1 i/\k=n-i/\i<=n/\h'=h/\aK g.2 (L.take i).flatten.length) n (0,0) ⟨?_,?_,?_⟩ ⟨0,⟨rfl⟩,by omega,by omega,rfl,⟨rfl⟩⟩ ?_
 .cbv
 .cbv
 .cbv
 intro k g h' I;cbv;obtain⟨i,a,r,N,rfl,j⟩:=I;refine aJ (λd=>?_) (λd=>?_)
 .have F:=a.lt d;clear d;cbv;obtain⟨x,hx⟩:=bn L i;refine⟨⟨q.aQ,a.ix F⟩,?_⟩;cbv;refine q.load hx a.eq (λcs t=>?_);obtain⟨v,rfl,e1,H,f⟩:=t;obtain⟨u,s,y,rfl⟩:=f.form;have E:=f.len;have l:=tZ L (i+1);rw[fI hx,List.length_append,<-E]at l;have Q:=j.add (A:=A) (aK.nat (A:=A) s) (by omega);have P:=fI hx;cbv;rw[Q.vf (A:=A)];cbv;refine⟨n-(i+1),(_,A .aC .add .i64 g.2 (A .nat s)),by omega,by constructor<;>cbv,i+1,a.succ (A:=A),rfl,by omega,rfl,?_⟩
  .rw[P,List.length_append,<-E];exact Q
 have T:=a.ge d;have eC:i=n:=by omega
 rw[List.take_of_length_le (by omega)]at j;obtain⟨z,w⟩:=g;have j:aK w L.flatten.length:=j;cbv;refine(cJK j R).mono (λv h1 hR=>?_);obtain⟨s,u,y,rfl,e⟩:=hR;cbv;refine aG.go (G:=Int×Option Addr×Nat×Nat) (λg=>[(27,.v (.int .i64 g.1)),(6,.v (.slice g.2.1 g.2.2.1 g.2.2.2))]) (λ_=>[])
  (λk g p=>∃i:Nat,aK g.1 i/\k=n-i/\i<=n/\Le h' p/\aU 5 bL h' p (.slice g.2.1 g.2.2.1 g.2.2.2) (L.take i).flatten) n (0,u,0,y) ⟨?_,?_,?_⟩ ⟨0,⟨rfl⟩,by omega,by omega,s,e⟩ ?_
 .cbv
 .cbv
 .cbv
 intro k g p I;cbv;obtain⟨i,a,r,N,l,e⟩:=I;obtain⟨z,K,B,M⟩:=g;have a:aK z i:=a;have e:aU 5 bL h' p (.slice K B M) (L.take i).flatten:=e;refine aJ (λd=>?_) (λd=>?_)
 .have F:=a.lt d;clear d;cbv;obtain⟨x,hx⟩:=bn L i;refine⟨⟨q.aQ,a.ix F⟩,?_⟩;cbv;refine(q.mono (l.t _)).load hx a.eq (λcs t=>?_);obtain⟨v,rfl,e1,H,f⟩:=t;obtain⟨W,l2,Y,rfl⟩:=f.form;have S:=f.len;have X:B=(L.take i).flatten.length:=e.sl.len;have J:=tZ L (i+1);have P:=fI hx;rw[P,List.length_append,<-S,<-X]at J;cbv;refine e.app f (by decide) rfl (by decide) (by omega) l (λm o c' h3 hm U t3 k3 V=>?_);cbv;refine⟨n-(i+1),(_,o,m,c'),by omega,by constructor<;>cbv,i+1,a.succ (A:=A),rfl,by omega,U,?_⟩
  .rw[P];exact V
 have T:=a.ge d;cbv;rw[List.take_of_length_le (by omega)]at e;exact O _ _ _ _ l e
theorem FM(c:s.n=1)(d:h n=some (.cells (List.toArray cs) e (0,0)))(hl:cs.length=xs.length)(hx:xs.length<=2^40)(r:∀(i:Nat) (v:Value) (x:a),cs[i]? =some v->xs[i]? =some x->s.R h [v] x)(g:m=xs.length):Sl e s h (.slice (some ⟨n,0,none⟩) m m) xs:=by
 subst g;refine Sl.fresh d ⟨by rw[c];omega,λi x hx=>?_⟩ hx (Nat.le_refl _);have b:i<cs.length:=by rw[hl];exact(List.getElem?_eq_some_iff.1 hx).1
 have f:cs[i]? =some cs[i]:=by simp[b]
 have:=r i _ x f hx;rw[c,Nat.zero_add,Nat.mul_one,show(cs.drop i).take 1=[cs[i]]from by rw[List.drop_eq_getElem_cons b];rfl]
 exact this
def u8(n:Int):UInt8:=UInt8.ofNat (n % 256).toNat
theorem ju[hA:bf A](n:Int):bL.R h [.int .u8 (A .conv .u8 n)] (u8 n):=by
 show [Value.int .u8 (A .conv .u8 n)]=[.int .u8 ((u8 n).toNat:Int)];rw[hA.conv];have a:IntKind.u8.wrap n=n % 256:=IntKind.wrap_u8 n;have b:((u8 n).toNat:Int)=n % 256:=by unfold u8;rw[UInt8.toNat_ofNat'];omega
 show [Value.int .u8 (IntKind.u8.wrap n)]=_;rw[a,b]
theorem oe{l:Bs}(q:Sl 5 bL h (.slice b m c) l)(C:m<=2^37)(z:Int)(u:∀h' d n' c',Le h h'->aU 5 bL h h' (.slice d n' c') (l++[u8 z])->k (.slice d n' c') h'):
 Ct 130 [.slice b m c,.int .i64 z] h k:=by
 obtain⟨A,hA⟩:=Ar.ex;have e:=q.len;have v:=ju (A:=A) (h:=h) z;refine bB dJH A Tryz.func130 ?_;cbv;intro x i o e1;have f:Le h i:=by rw[e1];exact Le.set o
 have p:=(congrFun e1 x).trans ae;cbv;intro y t Z g;have a:Le i t:=by rw[g];exact Le.set Z
 have r:=(congrFun g y).trans ae;have j:([l,[u8 z]]:List Bs).flatten=l++[u8 z]:=by simp
 cbv;refine xH (L:=[l,[u8 z]]) (mM (s:=Ah) rfl r (dE (q.mono ((f.trans a).t _))) (dE (aR (s:=bL) (a _ _ p) v))) (by rw[j,List.length_append,<-e,List.length_singleton];omega) (λB d n' c' w n=>?_);rw[j]at n;cbv;exact u _ _ _ _ ((f.trans a).trans w) (n.base (f.trans a))
def fY(n:Int)(k:Nat):UInt8:=u8 (n % 18446744073709551616 / (2^(8*k)))
def bR(n:Int):Bs:=(List.range 8).map (fY n)
theorem bW(n:Int):(bR n).length=8:=rfl
theorem qz(f:Nat->a)(h:i<n):((List.range n).map f).take (i+1)=((List.range n).map f).take i++[f i]:=by rw[List.take_add_one];congr 1;simp[h]
theorem mZ(n:Int):IntKind.u64.wrap n=n % 18446744073709551616:=by simp[IntKind.wrap,IntKind.bits,IntKind.signed]
theorem HC[hA:bf A](n:Int)(d:aK z i)(e:i<8):bL.R h [.int .u8 (A .conv .u8 (A .aC .shr .u64 (A .conv .u64 n) (A .aC .mul .i64 8 z)))] (fY n i):=by
 have a:A .aC .mul .i64 8 z=((8*i:Nat):Int):=by rw[hA.aC,d.eq];show IntKind.i64.wrap (8*(i:Int))=_;rw[IntWalk.i64_in _ (by omega)];omega
 have b:A .conv .u64 n=n % 18446744073709551616:=by rw[hA.conv];exact mZ n
 have c:A .aC .shr .u64 (A .conv .u64 n) (A .aC .mul .i64 8 z)=n % 18446744073709551616 / (2^(8*i)):=by rw[a,b,hA.aC];show(n % 18446744073709551616).fdiv (2^(min ((8*i:Nat):Int).toNat 64))=_;rw[show min ((8*i:Nat):Int).toNat 64=8*i by omega,Int.fdiv_eq_ediv_of_nonneg _ (Int.le_of_lt (Int.pow_pos (by decide)))]
 rw[c];exact ju _
theorem LO{l:Bs}(q:Sl e1 bL h (.slice b m c) l)(hm:m<=2^37)(n:Int)(S:∀h' a n' c',Le h h'->aU 5 bL h h' (.slice a n' c') (l++bR n)->k (.slice a n' c') h'):
 Ct 131 [.slice b m c,.int .i64 n] h k:=by
 have j:=q.len;obtain⟨J,Z⟩:∃J:Nat->(Int×Option Addr×Nat×Nat)->ab->Prop,∀w g h',J w g h'=(∃i,aK g.1 i/\i<=8/\w=8-i/\Le h h'/\aU 5 bL h h' (.slice g.2.1 g.2.2.1 g.2.2.2) (l++(bR n).take i)):=⟨_,λ_ _ _=>rfl⟩;refine an dJG Tryz.func131 λA hA=>?_;cbv;refine CR q (λP B C V q1=>?_);have u:J 8 (0,B,m,C) P:=by rw[Z];exact⟨0,⟨rfl⟩,by omega,rfl,V,by simpa using q1⟩
 cbv;refine aG.go (G:=Int×Option Addr×Nat×Nat) (λg=>[(9,.v (.int .i64 g.1)),(5,.v (.slice g.2.1 g.2.2.1 g.2.2.2))]) (λ_=>[]) (λw g h'=>J w g h') 8 (0,B,m,C) (by constructor<;>cbv) u ?_
 intro w g t D;rw[Z]at D;cbv;obtain⟨z,M,O,N⟩:=g;obtain⟨i,e,L,hw,x,f⟩:=D;have e:aK z i:=e;have f:aU 5 bL h t (.slice M O N) (l++(bR n).take i):=f;have nj:=f.sl.len;rw[List.length_append,List.length_take,bW,<-j]at nj;have H:A .ay .lss z 8=decide (i<8):=by rw[aD A,e.eq];exact decide_eq_decide.2 (by omega)
 have v:i<8->0<=A .aC .mul .i64 8 z:=λd=>by
  rw[hA.aC,e.eq];show 0<=IntKind.i64.wrap (8*(i:Int));rw[IntWalk.i64_in _ (by omega)];omega
 have hR:=λd:i<8=>HC (A:=A) (h:=t) n e d;have r:=e.succ (A:=A);have o:=λd:i<8=>qz (fY n) d;have o:i<8->(bR n).take (i+1)=(bR n).take i++[fY n i]:=o;have I:∀h' m' a c',i<8->Le h h'->aU 5 bL h h' (.slice a m' c') (l++(bR n).take i++[fY n i])->J (8-(i+1)) (A .aC .add .i64 z 1,a,m',c') h':=λh' m' a c' d T q'=>by
  rw[Z];exact⟨i+1,r,d,rfl,T,by rw[o d,<-List.append_assoc];exact q'⟩
 rw[H];by_cases F:i<8
 .have hR:=hR F;have v:=v F;generalize fY n i=y at *;rw[decide_eq_true F];clear Z o u r;cbv;refine⟨v,?_⟩;cbv;intro Y Q K p;have E:Le t Q:=by rw[p];exact Le.set K
  have q3:=aR (s:=bL) ((congrFun p Y).trans ae) hR;clear p;cbv;refine(f.mono (E.t _)).app q3 (by decide) rfl (by decide) (by omega) (x.trans E) (λm' a c' R DI W t4 k4 q4=>?_);have U:=I R m' a c' F W q4;clear I;cbv;refine⟨8-(i+1),(_,a,m',c'),by omega,by constructor<;>cbv,U⟩
 rw[decide_eq_false F];have hi:i=8:=by omega
 rw[List.take_of_length_le (by rw[bW];omega)]at f;clear Z o u r I hR v;cbv;refine CR f.sl (λh5 b5 c5 X q5=>?_);cbv;exact S _ _ _ _ (x.trans X) (q5.base x)
def fD(s:ByteArray):Bs:=(jn s).take 65535
def gA(s:ByteArray):Bs:=[u8 (min s.size 65535:Nat),u8 ((min s.size 65535:Nat) / 256:Nat)]
theorem xQ{e1:Nat}{l:Bs}(q:Sl 5 bL h (.slice b m c) l)(hm:m<=2^37)(s:ByteArray)(hs:s.size<=2^40)(r:∀h' a n' c',Le h h'->aU 5 bL h h' (.slice a n' c') (l++(gA s++fD s))->k (.slice a n' c') h'):
 Ct 132 [.slice b m c,.string s] h k:=by
 obtain⟨A,hA⟩:=Ar.ex;have u:=q.len;obtain⟨j,p⟩:∃j,j=min s.size 65535:=⟨_,rfl⟩;have D:A .ku (A .jL s) 65535=(j:Int):=by
  have:A .ku (A .jL s) 65535=min (s.size:Int) 65535:=by rw[hA.ku,hA.jL]
  omega
 obtain⟨t,f⟩:∃t,t=A .sub s 0 (j:Int):=⟨_,rfl⟩;have z:t=s.extract 0 j:=by rw[f,hA.sub];rfl
 have d:t.size=j:=by rw[z,ByteArray.size_extract];omega
 have P:jn t=fD s:=by rw[z];unfold fD jn;simp only[ByteArray.data_extract,Array.toList_extract];rw[p];simp only[List.extract,Nat.sub_zero,List.drop_zero];show List.take (min s.data.size 65535) _=_;rw[<-Array.length_toList,Nat.min_comm,<-List.take_eq_take_min]
 have U:A .jL t=(j:Int):=by rw[hA.jL];show(t.size:Int)=_;rw[d]
 have B:0<=A .ku (A .jL s) 65535/\A .ku (A .jL s) 65535<=(s.size:Int):=by rw[D];omega
 have Z:t.size<=2^40:=by omega
 have M:A .sub s 0 (A .ku (A .jL s) 65535)=t:=by rw[D,f]
 have K:=ju (A:=A) (h:=h) (j:Int);have Y:=ju (A:=A) (h:=h) ((j / 256:Nat):Int);have Q:A .aC .shr .i64 (j:Int) 8=((j / 256:Nat):Int):=by rw[hA.aC];show((j:Int)).fdiv (2^8)=_;rw[Int.fdiv_eq_ediv_of_nonneg _ (by decide)];omega
 have E:gA s=[u8 (j:Int),u8 ((j / 256:Nat):Int)]:=by unfold gA;rw[<-p]
 rw[E]at r;clear z f E;refine bB dJF A Tryz.func132 ?_;cbv;refine⟨B,?_⟩;cbv;rw[M];refine⟨by decide,?_⟩;cbv;rw[U,Q];intro w i C e1;have N:Le h i:=by rw[e1];exact Le.set C
 have F:=(congrFun e1 w).trans ae;clear e1;cbv;refine tN Z (λn2 V m2 H yY W v T=>?_);cbv;intro R I y e;have g:Le H I:=by rw[e];exact Le.set y
 have G:=(congrFun e R).trans ae;have S:Sl 5 bL i (.slice (some ⟨w,0,none⟩) 2 2) [u8 (j:Int),u8 ((j / 256:Nat):Int)]:=mM (s:=bL) rfl F K Y;have n:=(N.trans v).trans g;have o:([l,[u8 (j:Int),u8 ((j / 256:Nat):Int)],jn t]:List Bs).flatten=l++([u8 (j:Int),u8 ((j / 256:Nat):Int)]++fD s):=by rw[P];simp
 have J:(l++([u8 (j:Int),u8 ((j / 256:Nat):Int)]++fD s)).length<=2^38:=by
  have:(fD s).length<=65535:=by unfold fD;rw[List.length_take];omega
  simp only[List.length_append,List.length_cons,List.length_nil];omega
 clear e;cbv;refine xH (L:=[l,[u8 (j:Int),u8 ((j / 256:Nat):Int)],jn t]) (sa (s:=Ah) rfl G (dE (q.mono (n.t _))) (dE (S.mono ((v.trans g).t _))) (dE (T.mono (g.t _)))) (by rw[o];exact J) (λX a n' c' O x=>?_);rw[o]at x;cbv;exact r _ _ _ _ (n.trans O) (x.base n)
abbrev St:=Option Bs
def pY(r:AF):St:=if r.e=0 then some r.b else none
def dO(n:Nat):St->Bs×St
 |none=>([],none)
 |some b=>if n<=b.length then(b.take n,some (b.drop n))else([],none)
theorem yv(n:Nat)(r:AF):(iT n r).1=(dO n (pY r)).1/\pY (iT n r).2=(dO n (pY r)).2:=by
 unfold iT pY oK;by_cases h:r.e=0
 .rw[if_pos h];by_cases a:n>r.b.length
  .rw[if_pos a,if_pos ⟨by decide,h⟩];simp only[dO];rw[if_neg (by omega)];exact⟨rfl,rfl⟩
  rw[if_neg a,if_neg (λg=>g h)];simp only[dO];rw[if_pos (by omega)];exact⟨rfl,rfl⟩
 rw[if_neg h];by_cases a:n>r.b.length
 .rw[if_pos a,if_neg (λg=>h g.2)];exact⟨rfl,if_neg h⟩
 rw[if_neg a,if_pos h];exact⟨rfl,if_neg h⟩
def az(n:Nat)(s:St):Nat×St:=(lq (dO n s).1,(dO n s).2)
def aM(s:St):Bs×St:=dO (az 2 s).1 (az 2 s).2
def CG(e:Int)(s:St):St:=if e=0 then s else none
theorem pk(n:Nat)(s:St):(dO n s).1.length<=n:=by
 cases s with
 |none=>simp[dO]
 |some b=>
  simp only[dO];split
  .simp only[List.length_take];omega
  simp
theorem tS(n:Nat)(s:St):(az n s).1<256^n:=by have h:=Cc (dO n s).1;exact Nat.lt_of_lt_of_le h (Nat.pow_le_pow_right (by omega) (pk n s))
theorem Om(x:Int)(r:AF):pY (oK x r)=CG x (pY r):=by
 by_cases hx:x=0
 .have:oK x r=r:=if_neg (λg=>g.1 hx);rw[this];exact(if_pos hx).symm
 have a:CG x (pY r)=none:=if_neg hx;rw[a];by_cases h:r.e=0
 .have:oK x r=⟨r.b,x⟩:=if_pos ⟨hx,h⟩;rw[this];exact if_neg hx
 have:oK x r=r:=if_neg (λg=>h g.2);rw[this];exact if_neg h
structure fh(h:ab)(p:Nat)(s:St):Prop where
 out:∃r,DQ h p r/\pY r=s
theorem fh.le{s:St}(q:fh h p s)(l:Le h h'):fh h' p s:=by obtain⟨r,a,b⟩:=q.out;exact⟨r,a.le l,b⟩
theorem fh.lt{s:St}(q:fh h p s)(k:Kp [p] h h')(e:411∉tys):bV tys h h':=by obtain⟨r,a,b⟩:=q.out;exact a.lt k e
theorem Qh{xs:Bs}{len:Nat}(q:Sl e1 bL h (.slice b len cap) xs)
 (a:∀h' p,h p=none->Le h h'->fh h' p (some xs)->k (.pointer (some ⟨p,0,none⟩)) h'):
 Ct 141 [.slice b len cap] h k:=
 fKS q λh' p h0 l c=>a h' p h0 l ⟨_,c,rfl⟩
theorem NJ{s:St}(q:fh h p s)(x:Int)(a:∀h',Kp [p] h h'->fh h' p (CG x s)->k (.tuple #[]) h'):
 Ct 336 [.pointer (some ⟨p,0,none⟩),.int .i64 x] h k:=by
 obtain⟨r,c,rfl⟩:=q.out;exact aJa c x λh' b d=>a h' b ⟨_,d,Om x r⟩
theorem yI(r:AF):(lN n r).1=IntKind.i64.wrap ((az n (pY r)).1:Int)/\pY (lN n r).2=(az n (pY r)).2:=by have:=yv n r;exact⟨by unfold lN az;rw[this.1],this.2⟩
theorem aQV{s:St}(q:fh h p s)(a:∀h',Kp [p] h h'->fh h' p (az 8 s).2->k (.int .i64 (IntKind.i64.wrap ((az 8 s).1:Int))) h'):
 Ct 258 [.pointer (some ⟨p,0,none⟩)] h k:=by
 obtain⟨r,c,rfl⟩:=q.out;have:=yI (n:=8) r;exact fKU c λh' b d=>this.1 ▸ a h' b ⟨_,d,this.2⟩
theorem dKu{s:St}(q:fh h p s)(c:∀h',Kp [p] h h'->fh h' p (az 1 s).2->k (.int .i64 ((az 1 s).1:Int)) h'):
 Ct 142 [.pointer (some ⟨p,0,none⟩)] h k:=by
 obtain⟨r,e,rfl⟩:=q.out;have a:=yI (n:=1) r;have g:=tS 1 (pY r);have b:(lN 1 r).1=((az 1 (pY r)).1:Int):=by rw[a.1,IntWalk.i64_in _ (by omega)]
 exact dKv e λh' d f=>b ▸ c h' d ⟨_,f,a.2⟩
theorem cKE{s:St}(q:fh h p s)(d:∀h',Kp [p] h h'->fh h' p (aM s).2->k (.string (strOf (aM s).1)) h'):
 Ct 263 [.pointer (some ⟨p,0,none⟩)] h k:=by
 obtain⟨r,g,rfl⟩:=q.out;have c:=yI (n:=2) r;have j:=tS 2 (pY r);have a:(lN 2 r).1.toNat=(az 2 (pY r)).1:=by rw[c.1,IntWalk.i64_in _ (by omega)];omega
 have b:=yv (lN 2 r).1.toNat (lN 2 r).2;rw[a,c.2]at b;have e1:(Ec r).1=(aM (pY r)).1:=by unfold Ec;rw[a];exact b.1
 have e:pY (Ec r).2=(aM (pY r)).2:=by unfold Ec;rw[a];exact b.2
 exact cKF g λh' f i=>e1 ▸ d h' f ⟨_,i,e⟩
theorem Jw{s:St}(q:fh h p s)(c:∀e:Int,(e=0↔s=some [])->k (.int .i64 e) h):
 Ct 147 [.pointer (some ⟨p,0,none⟩)] h k:=by
 obtain⟨r,d,rfl⟩:=q.out;refine fKV d (c _ ?_);unfold Vd pY;by_cases a:r.e=0
 .by_cases b:r.b=[]
  .rw[if_neg (λg=>g.2 b),if_pos a];simp[a,b]
  rw[if_pos ⟨a,b⟩,if_pos a];simp[b]
 rw[if_neg (λg=>a g.1),if_neg a];simp[a]
end Go.S
namespace Go.Sx
variable {h h':ab}
def dI(ex:List Nat)(h h':ab):Prop:=∀b o,h b=some o->(∀c e fr,o=.cells c e fr->e∉ex)->h' b=some o
theorem Le.x(l:Le h h')(ex:List Nat):dI ex h h':=λb o a _=>l b o a
theorem dI.trans{ex:List Nat}{a b c:ab}(x:dI ex a b)(y:dI ex b c):dI ex a c:=λk o q n=>y k o (x k o q n) n
theorem dI.refl(ex:List Nat)(h:ab):dI ex h h:=λ_ _ x _=>x
theorem dI.t{ex:List Nat}(x:dI ex h h'){tys:List Nat}(hd:∀t∈tys,t∉ex):bV tys h h':=λb c e fr m a=>x b _ a (λc' f J d=>by cases d;exact hd _ m)
theorem Kp.x{ex:List Nat}{bs:List Nat}(k:Kp bs h h')(a:∀b∈bs,∀o,h b=some o->∃c e fr,o=.cells c e fr/\e∈ex):dI ex h h':=λb o v F=>by
 by_cases m:b∈bs
 .obtain⟨c,e,fr,rfl,d⟩:=a b m o v;exact absurd d (F _ _ _ rfl)
 exact k b o v m
theorem iB{g:Type}{e:Nat}{s:Sh g}{l:Nat}{A:Ar}[bf A]{bytes:Nat}{z:List Value}{x:g}{k:Value->ab->Prop}(hx:∀h,s.R h z x)(hl:l<=2^40)(j:bytes<=128)
 (d:∀n h',h n=none->Le h h'->cA e s h' n l (List.replicate l x)->k (.slice (some ⟨n,0,none⟩) l l) h'):
 od h e (A .nat l) (A .nat l) bytes z k:=by
 have f:=s.len (hx h);have N:(2:Nat)^40=1099511627776:=rfl;have Q:(2:Int)^48=281474976710656:=rfl;rw[bf.nat (A:=A)];refine⟨by simp only[Int.ofNat_eq_natCast];omega,⟨by rw[Q];simp only[Int.ofNat_eq_natCast];omega,?_⟩,λn h' e1 a=>?_⟩
 .rw[Q];simp only[Int.ofNat_eq_natCast];have:bytes*l<=128*l:=Nat.mul_le_mul_right _ j;have b:((bytes*l:Nat):Int)<=((128*l:Nat):Int):=Int.ofNat_le.2 this;simp only[Int.natCast_mul]at b;omega
 simp only[Int.ofNat_eq_natCast,Int.toNat_natCast]at a |-;have I:(gu l z).length=l*s.n:=by rw[eQ,f]
 refine d n h' e1 (by rw[a];exact Le.set e1) ⟨⟨gu l z,by rw[a,ae],⟨by rw[I];simp,λi y c=>?_⟩,I⟩,by simp,by simpa using hl⟩;have q:i<l:=by have:=(List.getElem?_eq_some_iff.1 c).1;simpa using this
 have K:y=x:=by obtain⟨p,b⟩:=List.getElem?_eq_some_iff.1 c;rw[<-b];simp
 subst K;have key:((gu l z).drop (0+i*s.n)).take s.n=z:=by
  clear a d I c;rw[Nat.zero_add,<-f];induction i generalizing l with
  |zero=>obtain⟨m,rfl⟩:∃m,l=m+1:=⟨l-1,by omega⟩;rw[Nat.zero_mul,List.drop_zero];show(z++gu m z).take z.length=z;simp
  |succ i o=>obtain⟨m,rfl⟩:∃m,l=m+1:=⟨l-1,by omega⟩;show((z++gu m z).drop ((i+1)*z.length)).take z.length=z;rw[Nat.succ_mul,Nat.add_comm,<-List.drop_drop,List.drop_left];exact o (by omega) (by omega)
 rw[key];exact hx h'
end Go.Sx
namespace Go.S
open Go.Sx Go.Proofs
variable {n:Int}{i p:Nat}{k:Value->ab->Prop}{h h':ab}
def aI(b:Bs):List Value:=b.map λx=>.int .u8 (x.toNat:Int)
theorem gD:∀b:Bs,iA (aI b)=true
 | []=>rfl
 |x::r=>by show iA (_::aI r)=true;unfold iA;exact gD r
def nf:Sh Bs where
 n:=64
 R _ cs b:=cs=aI b/\b.length=64
 len:=by rintro h cs b ⟨rfl,hl⟩;simpa[aI]using hl
 one:=by rintro h cs b ⟨rfl,-⟩;exact gD b
 tys:=[]
 mono:=λ_ q=>q
def Di:Bs:=List.replicate 64 0
def Oo:Sh (Int×Bs)where
 n:=65
 R _ cs w:=cs=.int .i64 w.1::aI w.2/\w.2.length=64
 len:=by rintro h cs b ⟨rfl,hl⟩;simpa[aI]using hl
 one:=by rintro h cs b ⟨rfl,-⟩;unfold iA;exact gD _
 tys:=[]
 mono:=λ_ q=>q
structure Dk where
 left:Int
 dead:Bool
 kept:List Bs
 now:List Bs
 ws:List (Int×Bs)
abbrev dT:List Nat:=[94,211,213]
structure lY(h:ab)(p:Nat)(D:Dk):Prop where
 out:∃kb nb wb wn wc d,h p=some (.cells (List.toArray [.int .i64 D.left,.int .u32 d,.slice (some ⟨kb,0,none⟩) D.now.length D.now.length,.slice (some ⟨nb,0,none⟩) D.now.length D.now.length,.slice wb wn wc]) 94 (0,0))/\
  cA 211 nf h kb D.now.length D.kept/\cA 211 nf h nb D.now.length D.now/\D.kept.length=D.now.length/\kb≠nb/\d=(if D.dead then 1 else 0)/\
  aU 213 Oo (λ_=>none) h (.slice wb wn wc) D.ws/\D.now.length<=4096
theorem lY.lt{D:Dk}(q:lY h p D)(l:bV dT h h'):lY h' p D:=by obtain⟨k,n,wb,c,wc,d,g,o1,o2,e1,e,a,w,b⟩:=q.out;exact⟨k,n,wb,c,wc,d,l _ _ _ _ (by decide) g,o1.mono (l.sub),o2.mono (l.sub),e1,e,a,w.mono (l.sub),b⟩
theorem lY.le{D:Dk}(q:lY h p D)(l:Le h h'):lY h' p D:=q.lt (l.t _)
theorem Wu{D:Dk}(q:lY h p D)(a:∀z,aK z D.now.length->k (.int .i64 z) h):Ct 174 [.pointer (some ⟨p,0,none⟩)] h k:=by obtain⟨A,hA⟩:=Ar.ex;obtain⟨i,n,wb,j,wc,d,g,o1,o2,e1,e,c,w,f⟩:=q.out;have b:=aK.nat (A:=A) D.now.length;generalize D.now.length=m at *;refine bB dZY A Tryz.func174 ?_;cbv;rw[al A];refine ak g ?_;cbv;exact a _ b
theorem aJb{D:Dk}(q:lY h p D)(b:k (.bool D.dead) h):Ct 175 [.pointer (some ⟨p,0,none⟩)] h k:=by
 obtain⟨j,n,wb,m,wc,d,g,o1,o2,e1,c,e,w,f⟩:=q.out;have hd:decide (d≠0)=D.dead:=by rw[e];cases D.dead<;>rfl
 generalize D.dead=t at *;refine an dZX Tryz.func175 λA hA=>?_;cbv;rw[al A];refine(me (bY g rfl)).mono (λv i hR=>?_);obtain⟨l,rfl,a,rfl⟩:=hR;rw[hd]at a;subst a;cbv;exact b
def dV(D:Dk)(n:Int)(size:Int):Int:=if D.dead then 15 else if n<0\/n>=D.now.length\/size>64 then 1 else 0
theorem Jc{D:Dk}(q:lY h p D)(n size:Int)(a:k (.int .i64 (dV D n size)) h):Ct 287 [.pointer (some ⟨p,0,none⟩),.int .i64 n,.int .i64 size] h k:=by
 obtain⟨A,hA⟩:=Ar.ex;obtain⟨x,y,wb,z,wc,d,g,o1,o2,e1,o,s,w,u⟩:=q.out;have i:A .ay .lss n 0=decide (n<0):=aD A ..;have f:A .ay .geq n (A .nat D.now.length)=decide (n>=D.now.length):=by rw[bX A,hA.nat];rfl
 have j:A .ay .gtr size 64=decide (size>64):=aX A ..;have P:dV D n size=if D.dead then 15 else if n<0\/n>=D.now.length\/size>64 then 1 else 0:=rfl
 generalize dV D n size=r at *;generalize v:D.now.length=m at *;generalize l:D.dead=t at *;refine bB dXe A Tryz.func287 ?_;cbv;rw[al A];refine aJb q ?_;rw[l];cbv;cases t with
 |true=>have P:r=15:=P;subst P;cbv;exact a
 |false=>
  have P:r=if n<0\/n>=(m:Int)\/size>64 then 1 else 0:=P
  by_cases c:n<0
  .rw[if_pos (.inl c)]at P;subst P;cbv;rw[i,decide_eq_true c];cbv;exact a
  by_cases b:n>=(m:Int)
  .rw[if_pos (.inr (.inl b))]at P;subst P;rw[decide_eq_true b]at f;cbv;rw[i,decide_eq_false c];cbv;rw[al A];refine ak g ?_;cbv;rw[f];cbv;exact a
  rw[decide_eq_false b]at f;by_cases e:size>64
  .rw[if_pos (.inr (.inr e))]at P;subst P;cbv;rw[i,decide_eq_false c];cbv;rw[al A];refine ak g ?_;cbv;rw[f];cbv;rw[j,decide_eq_true e];cbv;exact a
  rw[if_neg (λh=>h.elim c (λh=>h.elim b e))]at P;subst P;cbv;rw[i,decide_eq_false c];cbv;rw[al A];refine ak g ?_;cbv;rw[f];cbv;rw[j,decide_eq_false e];cbv;exact a
theorem cA.elem{A:Ar}[hA:bf A]{e a cap:Nat}{xs:List Bs}(o:cA e nf h a cap xs){b:Bs}(hx:xs[i]? =some b)(v:n=(i:Int)):Sl e bL h (.slice (some (A .ia (some ⟨a,0,none⟩) n 64)) 64 64) b:=by
 obtain⟨c,g,r,w⟩:=o.out;have s:=r.2 i b hx;obtain⟨d,f⟩:=s;have t:A .ia (some ⟨a,0,none⟩) n 64=⟨a,i*64,none⟩:=by have:A .ia=Sx.ia:=hA.ia;rw[this,v];simp[ia,bP]
 rw[t];have k:=r.1;have u:i<xs.length:=(List.getElem?_eq_some_iff.1 hx).1;have p:i*64+64<=c.length:=by have:(i+1)*64<=xs.length*64:=Nat.mul_le_mul_right _ u;have k:0+xs.length*64<=c.length:=k;omega
 refine⟨_,64,by rw[f],by rw[f];exact Nat.le_refl _,by rw[f];omega,.inr ⟨a,i*64,_,_,rfl,g,?_,λj x l=>?_⟩⟩
 .show i*64+b.length*1<=c.length;omega
 have U:j<64:=by have:=(List.getElem?_eq_some_iff.1 l).1;omega
 show((c.drop (i*64+j*1)).take 1)=_;have d:(c.drop (0+i*64)).take 64=aI b:=d;rw[Nat.zero_add]at d;apply List.ext_getElem?;intro m;rw[List.getElem?_take,List.getElem?_drop];by_cases q:m<1
 .have V:m=0:=by omega
  subst V;rw[if_pos q];have:=congrArg (λz=>z[j]?) d;simp only[List.getElem?_take,List.getElem?_drop,if_pos U,aI,List.getElem?_map,l,Option.map_some]at this;rw[show i*64+j*1+0=i*64+j by omega,this];rfl
 rw[if_neg q];rw[List.getElem?_eq_none (by simp;omega)]
def cH(D:Dk)(n:Int):Bs:=(D.now[n.toNat]?).getD []
theorem Wd{D:Dk}(q:lY h p D)(n:Int)
 (M:dV D n 0≠0->k (.tuple #[.slice none 0 0,.int .i64 (dV D n 0)]) h)
 (B:dV D n 0=0->∀h' b c,Le h h'->(cH D n).length=64->aU 5 bL h h' (.slice b 64 c) (cH D n)->k (.tuple #[.slice b 64 c,.int .i64 0]) h'):
 Ct 172 [.pointer (some ⟨p,0,none⟩),.int .i64 n] h k:=by
 obtain⟨A,hA⟩:=Ar.ex;obtain⟨J,t,wb,L,wc,d,g,o1,o2,e1,G,H,w,I⟩:=q.out;have z:A .ay .neq (dV D n 0) 0=decide (dV D n 0≠0):=av A ..;have e:dV D n 0=0->aK n n.toNat/\n.toNat<D.now.length:=λa=>by
  unfold dV at a;split at a
  .cases a
  split at a
  .cases a
  rename_i o;have f:¬n<0:=λg=>o (.inl g);have l:¬n>=(D.now.length:Int):=λg=>o (.inr (.inl g));exact⟨⟨by omega⟩,by omega⟩
 have K:dV D n 0=0->Sl 211 bL h (.slice (some (A .ia (some ⟨t,0,none⟩) n 64)) 64 64) (cH D n):=λa=>by
  obtain⟨f,l⟩:=e a;obtain⟨x,hx⟩:=ax (xs:=D.now) (i:=n.toNat) l;have:cH D n=x:=by unfold cH;rw[hx];rfl
  rw[this];exact cA.elem o2 hx f.eq
 have v:dV D n 0=0->True/\0<=n/\n<(D.now.length:Int):=λa=>⟨trivial,(e a).1.ix (e a).2⟩;have v:dV D n 0=0->(some (⟨t,0,none⟩:Addr)).isSome=true/\0<=n/\n<(D.now.length:Int):=λa=>⟨rfl,(v a).2⟩;clear e;generalize D.now.length=m at *;refine bB dJa A Tryz.func172 ?_;cbv;refine Jc q n 0 ?_;generalize dV D n 0=r at *;cbv;rw[z];by_cases j:r≠0
 .rw[decide_eq_true j];have C:=M j;cbv;exact C
 have s:r=0:=by omega
 have K:=K s;have B:=B s;generalize cH D n=b at *;rw[decide_eq_false j];cbv;rw[al A];refine ak g ?_;cbv;refine⟨v s,?_⟩;cbv;refine CR K (λf u y E F=>?_);have:=B f u y E K.len.symm F;cbv;exact this
abbrev W:=BitVec 32
structure jF(z:Int)(x:W):Prop where
 eq:z=(x.toNat:Int)
section
variable {A:Ar}[hA:bf A]{z w:Int}{x y:W}
theorem uS(n:Int):IntKind.u32.wrap n=n % 4294967296:=by simp[IntKind.wrap,IntKind.bits,IntKind.signed]
theorem pW(x:W):BitVec.ofInt 32 (x.toNat:Int)=x:=by apply BitVec.eq_of_toNat_eq;rw[BitVec.toNat_ofInt];have:=x.isLt;omega
theorem LW(x:W):((x.toNat:Int)) % 4294967296=x.toNat:=by have:=x.isLt;omega
theorem jF.add(h:jF z x)(g:jF w y):jF (A .aC .add .u32 z w) (x+y):=⟨by
 rw[hA.aC,h.eq,g.eq];show IntKind.u32.wrap _=_;rw[uS,BitVec.toNat_add];omega⟩
theorem jF.xor(h:jF z x)(g:jF w y):jF (A .aC .xor .u32 z w) (x^^^y):=⟨by
 rw[hA.aC,h.eq,g.eq];show IntKind.u32.wrap (((BitVec.ofInt 32 (x.toNat:Int)^^^BitVec.ofInt 32 (y.toNat:Int)).toNat:Nat):Int)=_;rw[pW,pW,uS,LW]⟩
theorem jF.and(h:jF z x)(g:jF w y):jF (A .aC .and .u32 z w) (x&&& y):=⟨by
 rw[hA.aC,h.eq,g.eq];show IntKind.u32.wrap (((BitVec.ofInt 32 (x.toNat:Int)&&& BitVec.ofInt 32 (y.toNat:Int)).toNat:Nat):Int)=_;rw[pW,pW,uS,LW]⟩
theorem jF.or(h:jF z x)(g:jF w y):jF (A .aC .or .u32 z w) (x|||y):=⟨by
 rw[hA.aC,h.eq,g.eq];show IntKind.u32.wrap (((BitVec.ofInt 32 (x.toNat:Int)|||BitVec.ofInt 32 (y.toNat:Int)).toNat:Nat):Int)=_;rw[pW,pW,uS,LW]⟩
theorem jF.not(h:jF z x):jF (A .aC .xor .u32 4294967295 z) (~~~x):=⟨by
 rw[hA.aC,h.eq];show IntKind.u32.wrap (((BitVec.ofInt 32 (4294967295:Int)^^^BitVec.ofInt 32 (x.toNat:Int)).toNat:Nat):Int)=_;rw[pW,uS,LW];have:BitVec.ofInt 32 (4294967295:Int)=BitVec.allOnes 32:=by decide
 rw[this,BitVec.allOnes_xor]⟩
theorem jF.shr(h:jF z x)(a:aK n i)(b:i<32):jF (A .aC .shr .u32 z n) (x >>> i):=⟨by
 rw[hA.aC,h.eq,a.eq];show((x.toNat:Int)).fdiv (2^(min ((i:Int)).toNat 32))=_;rw[show min ((i:Int)).toNat 32=i by omega,Int.fdiv_eq_ediv_of_nonneg _ (Int.le_of_lt (Int.pow_pos (by decide))),BitVec.toNat_ushiftRight,Nat.shiftRight_eq_div_pow];norm_cast⟩
theorem jF.shl(h:jF z x)(a:aK n i)(b:i<=32):jF (A .aC .shl .u32 z n) (x <<< i):=⟨by
 rw[hA.aC,h.eq,a.eq];show IntKind.u32.wrap ((x.toNat:Int)*2^(min ((i:Int)).toNat 32))=_;rw[show min ((i:Int)).toNat 32=i by omega,uS,BitVec.toNat_shiftLeft,Nat.shiftLeft_eq];have:(x.toNat:Int)*2^i=((x.toNat*2^i:Nat):Int):=by push_cast;rfl
 rw[this];omega⟩
theorem jF.aXx{v:Int}{b:UInt8}(h:v=(b.toNat:Int)):jF (A .conv .u32 v) (BitVec.ofNat 32 b.toNat):=⟨by
 rw[hA.conv,h];show IntKind.u32.wrap _=_;have:=b.toNat_lt;rw[uS,BitVec.toNat_ofNat];omega⟩
end
def nD:Sh W where
 n:=1
 R _ cs x:=∃z,cs=[.int .u32 z]/\jF z x
 len:=by rintro h cs x ⟨z,rfl,-⟩;rfl
 one:=by rintro h cs x ⟨z,rfl,-⟩;rfl
 tys:=[]
 mono:=λ_ q=>q
def rr(x:W)(n:Nat):W:=x >>> n|||x <<< (32-n)
def eKr(x:W):W:=rr x 7^^^rr x 18^^^x >>> 3
def eKq(x:W):W:=rr x 17^^^rr x 19^^^x >>> 10
def hQU(x:W):W:=rr x 6^^^rr x 11^^^rr x 25
def hQV(x:W):W:=rr x 2^^^rr x 13^^^rr x 22
def iQV(e f g:W):W:=(e&&& f)^^^(~~~e&&& g)
def fQs(a b c:W):W:=(a&&& b)^^^(a&&& c)^^^(b&&& c)
def bw(b:Bs)(i:Nat):W:=BitVec.ofNat 32 (b.getD i 0).toNat
def QX(b:Bs)(i:Nat):W:=bw b (4*i) <<< 24|||bw b (4*i+1) <<< 16|||bw b (4*i+2) <<< 8|||bw b (4*i+3)
def wF(b:Bs)(i:Nat):W:=
 if i<16 then QX b i else if 16<=i then wF b (i-16)+eKr (wF b (i-15))+wF b (i-7)+eKq (wF b (i-2))else 0
 termination_by i
 decreasing_by all_goals omega
def Dz:List W:=[0x428a2f98#32,0x71374491#32,0xb5c0fbcf#32,0xe9b5dba5#32,0x3956c25b#32,0x59f111f1#32,0x923f82a4#32,0xab1c5ed5#32,
 0xd807aa98#32,0x12835b01#32,0x243185be#32,0x550c7dc3#32,0x72be5d74#32,0x80deb1fe#32,0x9bdc06a7#32,0xc19bf174#32,
 0xe49b69c1#32,0xefbe4786#32,0x0fc19dc6#32,0x240ca1cc#32,0x2de92c6f#32,0x4a7484aa#32,0x5cb0a9dc#32,0x76f988da#32,
 0x983e5152#32,0xa831c66d#32,0xb00327c8#32,0xbf597fc7#32,0xc6e00bf3#32,0xd5a79147#32,0x06ca6351#32,0x14292967#32,
 0x27b70a85#32,0x2e1b2138#32,0x4d2c6dfc#32,0x53380d13#32,0x650a7354#32,0x766a0abb#32,0x81c2c92e#32,0x92722c85#32,
 0xa2bfe8a1#32,0xa81a664b#32,0xc24b8b70#32,0xc76c51a3#32,0xd192e819#32,0xd6990624#32,0xf40e3585#32,0x106aa070#32,
 0x19a4c116#32,0x1e376c08#32,0x2748774c#32,0x34b0bcb5#32,0x391c0cb3#32,0x4ed8aa4a#32,0x5b9cca4f#32,0x682e6ff3#32,
 0x748f82ee#32,0x78a5636f#32,0x84c87814#32,0x8cc70208#32,0x90befffa#32,0xa4506ceb#32,0xbef9a3f7#32,0xc67178f2#32]
structure W8 where
 a:W
 b:W
 c:W
 d:W
 e:W
 f:W
 g:W
 h:W
def W8.l(t:W8):List W:=[t.a,t.b,t.c,t.d,t.e,t.f,t.g,t.h]
def jS:W8:=⟨0x6a09e667#32,0xbb67ae85#32,0x3c6ef372#32,0xa54ff53a#32,0x510e527f#32,0x9b05688c#32,0x1f83d9ab#32,0x5be0cd19#32⟩
def cQB(t:W8)(k w:W):W:=t.h+hQU t.e+iQV t.e t.f t.g+k+w
def eKz(t:W8):W:=hQV t.a+fQs t.a t.b t.c
def aJJ(t:W8)(k w:W):W8:=⟨cQB t k w+eKz t,t.a,t.b,t.c,t.d+cQB t k w,t.e,t.f,t.g⟩
def uG(b:Bs)(t:W8):Nat->W8
 |0=>t
 |i+1=>aJJ (uG b t i) (Dz.getD i 0) (wF b i)
def W8.add(t s:W8):W8:=⟨t.a+s.a,t.b+s.b,t.c+s.c,t.d+s.d,t.e+s.e,t.f+s.f,t.g+s.g,t.h+s.h⟩
def DP(s:W8)(b:Bs):W8:=(uG b s 64).add s
def lp(n:Nat):Nat:=(119-n % 64) % 64
def Ji(n:Nat):Bs:=(List.range 8).map λi=>u8 ((n*8 % 2^64 / 2^(56-8*i):Nat):Int)
def BS(b:Bs):Bs:=b++[128]++List.replicate (lp b.length) 0++Ji b.length
def iS(s:W8)(b:Bs):W8:=if h:64<=b.length then iS (DP s (b.take 64)) (b.drop 64)else s
 termination_by b.length
 decreasing_by simp only[List.length_drop];omega
def wB(w:W)(i:Nat):UInt8:=u8 ((w >>> (24-8*i)).toNat:Int)
def OC(s:W8):Bs:=s.l.flatMap λw=>(List.range 4).map (wB w)
def On(b:Bs):Bs:=OC (iS jS (BS b))
theorem sG(s:W8):(OC s).length=32:=rfl
theorem fw(b:Bs):(On b).length=32:=sG _
def wT(b:Bs):Bs:=On (0::b)
def vY(a b:Bs):Bs:=On (1::(a++b))
def zr(k n:Nat):Nat:=if h:2*k<n/\0<k then zr (2*k) n else k
 termination_by n-k
 decreasing_by omega
def xF(n:Nat):Nat:=zr 1 n
theorem Ns(k n:Nat)(hk:0<k)(hn:k<n):zr k n<n/\0<zr k n:=by
 unfold zr;split
 .rename_i h;exact Ns (2*k) n (by omega) h.1
 .exact⟨hn,hk⟩
 termination_by n-k
theorem Ba{n:Nat}(h:2<=n):xF n<n/\0<xF n:=Ns 1 n (by omega) (by omega)
def fL(l:List Bs):Bs:=
 match l with
 | []=>On []
 | [x]=>x
 |x::y::r=>vY (fL ((x::y::r).take (xF (r.length+2)))) (fL ((x::y::r).drop (xF (r.length+2))))
 termination_by l.length
 decreasing_by
 .have:=Ba (n:=r.length+2) (by omega);simp only[List.length_take,List.length_cons];omega
 have:=Ba (n:=r.length+2) (by omega);simp only[List.length_drop,List.length_cons];omega
def dY(s:ByteArray):Bs:=gA s++fD s
def iL(v:gV):Bs:=u8 v.k::(if v.k=1 then [u8 v.n]else if v.k=2 then bR v.n else if v.k=3 then dY v.s else [])
def fH(r:Row):Bs:=u8 (r.length:Int)::r.flatMap iL
def PM(id:Int)(seq:Nat)(c:cC):Bs:=bR id++bR (seq:Int)++[u8 c.op]++dY c.table++dY (strOf (fH c.row))
def cP(id:Int)(seq:Nat)(c:cC):Bs:=wT (PM id seq c)
def gC(id:Int)(l:List cC):List Bs:=l.mapIdx (cP id)
def eS(id:Int)(l:List cC):Bs:=fL (gC id l)
def lU(id:Int)(l:List cC):Bs:=wT (bR id++bR (l.length:Int)++eS id l)
structure xT where
 n:Int
 prev:Bs
 root:Bs
 count:Int
def VE(b:xT):Bs:=bR b.n++b.prev++b.root++bR b.count
def dN(b:xT):Bs:=On (VE b)
end Go.S
