import Derived.Test.YtficmdggjjepmaaGreatGA
import Derived.Laws.BytesArg
import Derived.Laws.IdiomStrings
set_option linter.all false
set_option maxRecDepth 100000
set_option maxHeartbeats 8000000
namespace Go.Sx
variable {bytes e1 n size:Nat}{k:Value->ab->Prop}{h:ab}
theorem jx{j:Type}{e:Nat}{s:Sh j}{x:Option Addr}{m:Nat}{xs:List j}(q:Sl e1 s h (.slice x n m) xs){a:Option Addr}(P:size=s.n)(T:bytes<=128)
  (p:n=0->k (.slice a 0 0) h)
 (o:∀b cap h',h b=none->0<n->Le h h'->cM e s h' b cap xs->k (.slice (some ⟨b,0,none⟩) n cap) h'):fq h a 0 0 x n size bytes e k:=by
 subst P;obtain⟨cs,v,f,w,y⟩:=q.iu;have g:=q.len;obtain⟨Y,X⟩:=q.bound;refine⟨cs,v,w,λA=>?_,λB=>?_⟩
 .have i:n=0:=by omega
  have u:cs=[]:=ee (by rw[f,i];simp);subst i;exact .inl ⟨u,p rfl⟩
 refine⟨?_,?_,[],.inl ⟨by simp,rfl⟩,λb c h' r e1 z t d=>?_⟩
 .have U:(2:Nat)^40=1099511627776:=rfl;have O:(2:Nat)^48=281474976710656:=rfl;have:2*(0+n)*bytes<=2*(0+n)*128:=hKU _ T;omega
 .have U:(2:Nat)^40=1099511627776:=rfl;have O:(2:Nat)^48=281474976710656:=rfl;omega
 have l:Le h h':=by rw[d];exact Le.set e1
 have:=o b c h' e1 (by omega) l ⟨⟨cs++r,?_,?_,?_⟩,by omega,by omega⟩
 .simpa using this
 .rw[d,ae];simp
 .have:=y h' (l.t _) [] r;simpa using this
 simp only[dr,f,t];rw[<-hJH];congr 1;omega
theorem aT.app{G:Type}{e:Nat}{s:Sh G}{h0:ab}{b x:Option Addr}{len cap K:Nat}{xs ys:List G}(q:aT e s h0 h (.slice b len cap) xs)(F:Sl e1 s h (.slice x n K) ys)(M:e∉s.tys)(P:size=s.n)(T:bytes<=128)(N:len+n<=2^39)
  (f:Le h0 h) (w:∀m p c' h',m=len+n->Le h0 h'->(∀tys,e∉tys->cf tys h h')->(∀j o,h j=some o->(cap=0\/b≠some ⟨j,0,none⟩\/∀c fr,o≠.cells c e fr)->h' j=some o)->aT e s h0 h' (.slice p m c') (xs++ys)->k (.slice p m c') h'):
 fq h b len cap x n size bytes e k:=by
 subst P;obtain⟨cs,J,r,z,A⟩:=F.iu;have l:=q.sl.len;have C:=F.len;have g:cap<len+n->pq h b len cap n s.n bytes e cs k:=λB=>by
  refine oB q.sl B rfl T N z r (ys:=ys) (by rw[C];exact mr _) (λh' hl=>?_) (λE c h' e1 t U o=>?_)
  .have:=A h' (hl.t _) [] [];simpa using this
  exact w _ _ _ h' rfl (f.trans t) (λtys _=>t.t tys) (λj o a _=>t j o a) (o.buf (f.none e1) (by rw[dr,l,C]))
 refine⟨cs,J,?_⟩;by_cases W:len+n<=cap
 .refine⟨z,λ_=>?_,λB=>by omega⟩;by_cases R:n=0
  .have I:cs=[]:=ee (by rw[r,R];simp);have H:ys=[]:=ee (by omega);refine .inl ⟨I,w _ _ _ h rfl f (λ_ _=>cf.refl _ _) (λ_ _ a _=>a) ?_⟩;rw[H,wS,R];exact q
  rcases q.out with⟨p,u,v⟩|⟨E,V,u,v,o⟩
  .cases u;omega
  cases u;refine .inr ⟨⟨E,xs.length*s.n,none⟩,by simp[bL],?_⟩;have O:Rows s h cs 0 ys:=by have:=A h (cf.refl _ _) [] [];simpa using this
  refine o.write (ys:=ys) M (i:=xs.length) (by omega) (by omega) (by omega) (by rw[r,C]) O (λh' D Q o'=>?_);rw[hJz,Yd (by omega),wS]at o';refine w _ _ _ h' rfl (f.aE (by simpa using v) D) Q (λj S a d=>?_) (o'.buf v (by rw[dr,C]));refine D j S a ?_;intro y;simp at y;rcases d with d|d|d
  .omega
  .exact d (by rw[y])
  obtain⟨c,L,-⟩:=o.out;rw[y,L]at a;cases a;exact d _ _ rfl
 exact g (by omega)
end Go.Sx
namespace Go.S
open Go.Sx Go.Proofs
variable {a:Type}{A:Ar}{f:FuncId}{z:Int}{tys:List Nat}{cl cs fl:List Value}{xs:List a}{c cap e1 i m n o p:Nat}{b:Option Addr}{s:Sh a}{k:Value->ab->Prop}{h h':ab}{Q:ab->Prop}
def bS:Sh UInt8 where
 n:=1
 R _ cs x:=cs=[.int .u8 (x.toNat:Int)]
 len:=by rintro h cs x rfl;rfl
 one:=by rintro h cs x rfl;rfl
 tys:=[]
 mono:=λ_ q=>q
abbrev Bs:=List UInt8
theorem Be{xs:Bs}{len:Nat}(q:Sl e1 bS h (.slice b len cap) xs)
 (d:∀h' f c',Le h h'->aT 5 bS h h' (.slice f len c') xs->k (.slice f len c') h'):
 Ct 196 [.slice b len cap] h k:=by
 refine cp cJu Tryz.func196 λA hA=>?_;cbv;refine aL (λa=>?_) (λa=>?_)
 .rw[hA.yw]at a;cbv;have m:b=none:=by cases b<;>simp at a |-
  subst m;have hl:len=0:=by
   rcases hJL len with e|e
   .exact e
   have:=q.aR e;cases this
  have:=q.len;have hx:xs=[]:=ee (by omega);subst hx hl;exact d _ _ _ (Le.refl _) aT.nil
 cbv;intro s j R r;have l:Le h j:=by rw[r];exact Le.set R
 cbv;refine jx (q.mono (l.t _)) rfl (by decide) (λn=>?_) (λt c p e1 o g i=>?_)
 .cbv;have:=q.len;have hx:xs=[]:=ee (by omega);subst hx n;exact d _ _ _ l aT.nil
 cbv;exact d _ _ _ (l.trans g) (i.buf (l.none e1) q.len)
theorem aJH{p:Unit->Program}{u bs:List Value}(e:u=bs)(q:Ca p f u h k):Ca p f bs h k:=e ▸ q
theorem bXQ{b:Nat}(r:ld h ⟨b,o,none⟩ (.int .u32 0))(s:ld h ⟨b,o+1,none⟩ (.int .i32 0))
 (L:∀j,Up h b (o+1) (.int .i32 1) j->Ct f (fl++cl) j (λv c=>v=.tuple #[]/\ld c ⟨b,o,none⟩ (.int .u32 0)/\ld c ⟨b,o+1,none⟩ (.int .i32 1)/\Q c)) (m:ax f=true:=by kernel_rfl):
 Ct 117 [.pointer (some ⟨b,o,none⟩),.func (.func f) fl.toArray cl.toArray] h (λv h'=>v=.tuple #[]/\∃c d,Q c/\Up c b o (.int .u32 1) d/\Up d b (o+1) (.int .i32 0) h'):=by
 obtain⟨A,hA⟩:=Ar.ex;obtain⟨X,E⟩:∃g,g=ax:=⟨_,rfl⟩;have w:eU Tryz.prog ⟨ty,X,NM.aw,NM.aP,λ_=>false,[],λ_ _ _=>False⟩:=by rw[E];exact ah _ _
 have x:X f=true:=by rw[E];exact m
 have i:X 207=true:=by rw[E];kernel_rfl
 have D:X 116=true:=by rw[E];kernel_rfl
 have C:X 209=true:=by rw[E];kernel_rfl
 have K:X 208=true:=by rw[E];kernel_rfl
 clear E m;refine mF A w Tryz.func117 rfl (by kernel_rfl) ?_;cbv;rw[ao A,i];cbv;refine(Ef s).mono (λv j hR=>?_);obtain⟨rfl,u⟩:=hR;have e:=u.other (by omega) r;cbv;rw[ao A];rw[ao A,D];cbv;refine(kY e).mono (λv c hR=>?_);obtain⟨t,rfl,k,rfl⟩:=hR;have k:t=false:=by rw[k];rfl
 subst k;cbv;rw[hA.not];cbv;rw[ao A,x];cbv;refine aJH (by cases fl with|nil=>cases cl<;>rfl|cons a t=>exact(show a::(t++cl)=a::((t++[])++cl)by rw[wS])) ((L _ u).mono (λv c hR=>?_));obtain⟨rfl,n,p,q⟩:=hR;cbv;rw[C];cbv;refine(wC n).mono (λv d hR=>?_);obtain⟨-,l⟩:=hR;have O:=l.other (by omega) p;cbv;rw[K];cbv;refine(tK O).mono (λv y hR=>?_);obtain⟨-,Z⟩:=hR;cbv;exact⟨rfl,c,d,q,l,Z⟩
theorem hQV{b:Nat}(q:ld h ⟨b,o,none⟩ (.int .u32 0))(i:ld h ⟨b,o+1,none⟩ (.int .i32 0))
 (L:∀d,Up h b (o+1) (.int .i32 1) d->Ct f (fl++cl) d (λv a=>v=.tuple #[]/\ld a ⟨b,o,none⟩ (.int .u32 0)/\ld a ⟨b,o+1,none⟩ (.int .i32 1)/\Q a)) (g:ax f=true:=by kernel_rfl):
 Ct 43 [.pointer (some ⟨b,o,none⟩),.func (.func f) fl.toArray cl.toArray] h (λv h'=>v=.tuple #[]/\∃a e,Q a/\Up a b o (.int .u32 1) e/\Up e b (o+1) (.int .i32 0) h'):=by
 have sl:=bXQ q i L g;clear L g;generalize R:(Value.func (.func f) fl.toArray cl.toArray)=j at sl |-;refine cp Oy Tryz.func43 λA hA=>?_;clear R;cbv;rw[ao A];refine(kY q).mono (λv a hR=>?_);obtain⟨t,rfl,c,rfl⟩:=hR;have c:t=false:=by rw[c];rfl
 subst c;cbv;rw[hA.not];cbv;refine sl.mono (λv a hR=>?_);obtain⟨rfl,hR⟩:=hR;cbv;exact⟨rfl,hR⟩
theorem cQT{c:Value}{b:Nat}(q:ld h ⟨b,o,none⟩ (.int .u32 1)):
 Ct 43 [.pointer (some ⟨b,o,none⟩),c] h (λv h'=>v=.tuple #[]/\h'=h):=by
 refine cp Oy Tryz.func43 λA hA=>?_;cbv;rw[ao A];refine(kY q).mono (λv d hR=>?_);obtain⟨t,rfl,a,rfl⟩:=hR;have a:t=true:=by rw[a];rfl
 subst a;cbv;rw[hA.not];cbv;exact⟨rfl,True.intro⟩
theorem cQS{ty:Nat}{c:List Value}(g:h p=some (.cells (List.toArray c) ty (0,0)))(n:c[o]? =some (.int .u32 0))(q:c[o+1]? =some (.int .i32 0))
 (L:∀d,d=bH h p (.cells (List.toArray (c.set (o+1) (.int .i32 1))) ty (0,0))->Ct f (fl++cl) d (λv a=>v=.tuple #[]/\∃c':List Value,a p=some (.cells (List.toArray c') ty (0,0))/\c'[o]? =some (.int .u32 0)/\c'[o+1]? =some (.int .i32 1)/\
  k (.tuple #[]) (bH a p (.cells (List.toArray ((c'.set o (.int .u32 1)).set (o+1) (.int .i32 0))) ty (0,0))))) (s:ax f=true:=by kernel_rfl):
 Ct 43 [.pointer (some ⟨p,o,none⟩),.func (.func f) fl.toArray cl.toArray] h k:=by
 refine(hQV (f:=f) (fl:=fl) (cl:=cl) (Q:=λa=>∃c':List Value,a p=some (.cells (List.toArray c') ty (0,0))/\k (.tuple #[]) (bH a p (.cells (List.toArray ((c'.set o (.int .u32 1)).set (o+1) (.int .i32 0))) ty (0,0)))) (cP g n) (cP g q) (λd u=>?_) s).mono (λv y hR=>?_)
 .refine(L d (u.exp g)).mono (λv a hR=>?_);obtain⟨e,c',b,m,e1,i⟩:=hR;exact⟨e,cP b m,cP b e1,c',b,i⟩
 obtain⟨rfl,a,x,⟨c',b,i⟩,t,w⟩:=hR;have j:=t.exp b;have r:=(congrFun j p).trans ae;have l:=w.exp r;rw[j,dN]at l;rw[l];exact i
structure yF where
 b:Bs
 e:Int
structure BZ(h:ab)(p:Nat)(r:yF):Prop where
 out:∃bb n c d,h p=some (.cells (List.toArray [.slice bb n c,.int .i64 r.e,.int .u32 d,.int .i32 0,.int .u32 0]) 361 (0,0))/\Sl 5 bS h (.slice bb n c) r.b/\((r.e=0/\d=0)\/(r.e≠0/\d=1))
theorem BZ.le{r:yF}(q:BZ h p r)(l:Le h h'):BZ h' p r:=by obtain⟨bb,n,c,d,g,s,a⟩:=q.out;exact⟨bb,n,c,d,l _ _ g,s.mono (l.t _),a⟩
structure dQe(p:Nat)(h h':ab):Prop where
 kp:Kp [p] h h'
 ty:∃c e fr,h p=some (.cells c e fr)/\∃c' EF,h' p=some (.cells c' e EF)
theorem Au(k:Kp [p] h h'){c:Array Value}{e:Nat}{fr:Nat×Nat}(g:h p=some (.cells c e fr))(i:e∉tys):cf tys h h':=λb d j E m a=>
 k b _ a (by intro f;simp at f;rw[f,g]at a;cases a;exact i m)
theorem BZ.lt{r:yF}(q:BZ h p r)(k:Kp [p] h h')(e:361∉tys):cf tys h h':=by obtain⟨bb,n,c,d,g,-,-⟩:=q.out;exact Au k g e
def nD(e:Int)(r:yF):yF:=if e≠0/\r.e=0 then⟨r.b,e⟩else r
theorem cQC{a b:Nat}{x:Int}{t:Nat}{s d e f y:Value}(i:h a=some (.cells #[.int .i64 x] t (0,0)))(g:h b=some (.cells #[.pointer (some ⟨c,0,none⟩)] n (0,0)))
 (j:h c=some (.cells (List.toArray [s,y,d,e,f]) 361 (0,0)))  (m:k (.tuple #[]) (bH h c (.cells (List.toArray [s,.int .i64 x,d,e,f]) 361 (0,0)))):
 Ct 203 [.pointer (some ⟨a,0,none⟩),.pointer (some ⟨b,0,none⟩)] h k:=by
 refine cp cJo Tryz.func203 λA hA=>?_;cbv;refine bc g ?_;cbv;refine bc i ?_;cbv;rw[ao A];refine iB j (by simp) (λh' l=>?_);subst l;cbv;exact m
theorem aQk{r:yF}(q:BZ h p r)(x:Int)(m:∀h',Kp [p] h h'->BZ h' p (nD x r)->k (.tuple #[]) h'):
 Ct 112 [.pointer (some ⟨p,0,none⟩),.int .i64 x] h k:=by
 obtain⟨bb,n,c,d,g,s,D⟩:=q.out;have H:=s.bound;refine cp cKE Tryz.func112 λA hA=>?_;cbv;intro b w Z e1;cbv;intro i a Q j;have z:Le h w:=by rw[e1];exact Le.set Z
 have B:Le w a:=by rw[j];exact Le.set Q
 have O:=z.trans B;have t:a i=some (.cells #[.int .i64 x] 26 (0,0)):=by rw[j];exact ae
 have o:a b=some (.cells #[.pointer (some ⟨p,0,none⟩)] 267 (0,0)):=B _ _ (by rw[e1];exact ae);have l:=O _ _ g;have E:b≠p:=λe=>by rw[e,g]at Z;cases Z
 have F:i≠p:=λe=>by rw[e,z _ _ g]at Q;cases Q
 have C:A .az .neq x 0=decide (x≠0):=av A ..;clear e1 j;cbv;refine bc t ?_;cbv;rw[C];by_cases hx:x≠0
 .rw[aH hx];cbv;refine bc o ?_;cbv;rw[ao A];rcases D with⟨he,rfl⟩|⟨he,rfl⟩
  .refine cQS (f:=203) (fl:=[]) (cl:=[.pointer (some ⟨i,0,none⟩),.pointer (some ⟨b,0,none⟩)]) l rfl rfl (λy u=>?_);have K:y i=some (.cells #[.int .i64 x] 26 (0,0)):=by rw[u,bU F];exact t
   have J:y b=some (.cells #[.pointer (some ⟨p,0,none⟩)] 267 (0,0)):=by rw[u,bU E];exact o
   have R:=(congrFun u p).trans ae;refine cQC K J R ⟨rfl,_,ae,rfl,rfl,?_⟩;rw[u,dN,dN];have P:nD x r=⟨r.b,x⟩:=if_pos ⟨hx,he⟩;have kp:Kp [p] a (bH a p (.cells (List.toArray [.slice bb n c,.int .i64 x,.int .u32 1,.int .i32 0,.int .u32 0]) 361 (0,0))):=Kp.set (by simp);have:=m _ ((O.kp _).trans kp) (by rw[P];exact⟨bb,n,c,1,ae,(s.mono (O.t _)).mono (Au kp l (by decide)),.inr ⟨hx,rfl⟩⟩);cbv;exact this
  refine(cQT (cP l rfl)).mono (λv G hR=>?_);obtain⟨rfl,rfl⟩:=hR;cbv;exact m _ (O.kp _) (by rw[show nD x r=r from if_neg (λg=>he g.2)];exact q.le O)
 rw[ag hx];cbv;exact m _ (O.kp _) (by rw[show nD x r=r from if_neg (λg=>hx g.1)];exact q.le O)
theorem fQy{xs:Bs}{len:Nat}(q:Sl e1 bS h (.slice b len cap) xs)
 (m:∀h' p,h p=none->Le h h'->BZ h' p ⟨xs,0⟩->k (.pointer (some ⟨p,0,none⟩)) h'):
 Ct 106 [.slice b len cap] h k:=by
 refine cp cKK Tryz.func106 λA hA=>?_;cbv;refine Be q (λi d f l n=>?_);cbv;intro p j a e;have c:Le i j:=by rw[e];exact Le.set a
 have g:=(congrFun e p).trans ae;cbv;exact m _ p (l.none a) (l.trans c) ⟨d,len,f,0,g,n.sl.mono (c.t _),.inl ⟨rfl,rfl⟩⟩
theorem _root_.Go.Sx.Sl.pw[hA:aV A]{e:Nat}(q:Sl e s h (.slice b n c) xs)(j:i<=n)(k:m=i):
 Sl e s h (.slice (A .cut b 0 z s.n) m c) (xs.take i):=by
 have d:=(q.qu (A:=A) (z:=z) j (m:=i) (c':=i) rfl rfl).out;obtain⟨l,cap,e1,o,f,g⟩:=d;subst k;have p:=q.bound;have hl:(xs.take m).length=m:=by rw[dW,<-q.len];omega
 refine⟨A .cut b 0 z s.n,c,by rw[hl],by rw[hl];omega,f,?_⟩;simp only[Value.slice.injEq]at e1;rw[e1.1];exact g
def gR(n:Nat)(r:yF):Bs×yF:=if n>r.b.length then([],nD 8 r)else if r.e≠0 then([],r)else(r.b.take n,⟨r.b.drop n,0⟩)
theorem Pg{r:yF}(q:BZ h p r)(f:aM z n)
 (a:∀h' b m c,Kp [p] h h'->Sl 5 bS h' (.slice b m c) (gR n r).1->BZ h' p (gR n r).2->k (.slice b m c) h'):
 Ct 202 [.pointer (some ⟨p,0,none⟩),.int .i64 z] h k:=by
 obtain⟨A,hA⟩:=Ar.ex;obtain⟨bb,m,c,d,g,s,G⟩:=q.out;have M:=s.bound;have B:=s.len;have fn:A .az .gtr z (A .nat m)=decide (n>m):=by rw[aO A,hA.nat,f.eq];exact decide_eq_decide.2 (by rw[kH];omega)
 have Q:n<=m->0<=z/\z<=(c:Int):=λv=>by have:=f.eq;omega
 have T:n<=m->0<=z/\z<=(m:Int):=λv=>by have:=f.eq;omega
 have y:=cQ (A:=A) f;have D:=bZ (A:=A) (n:=m) f;have E:=bZ (A:=A) (n:=c) f;refine dH cJp A Tryz.func202 ?_;cbv;rw[ao A];refine bc g ?_;cbv;rw[fn];by_cases C:n>m
 .have P:gR n r=([],nD 8 r):=if_pos (by omega);rw[P]at a;rw[aH C];cbv;refine aQk q 8 (λi l w=>?_);have x:(nD 8 r).e≠0:=by
   unfold nD;split
   .exact(by decide:(8:Int)≠0)
   rename_i v;intro e;exact v ⟨by decide,e⟩
  obtain⟨o,Z⟩:∃o,o=nD 8 r:=⟨_,rfl⟩;rw[<-Z]at w x a;obtain⟨F,N,L,y,u,O,J⟩:=w.out;have t:A .az .neq o.e 0=decide (o.e≠0):=av A ..;cbv;rw[ao A];refine bc u ?_;cbv;rw[t,aH x];cbv;exact a _ _ _ _ l Sl.nil w
 have t:A .az .neq r.e 0=decide (r.e≠0):=av A ..;rw[ag C];cbv;rw[ao A];refine bc g ?_;cbv;rw[t];by_cases j:r.e≠0
 .have P:gR n r=([],r):=by unfold gR;rw[if_neg (by omega),if_pos j]
  rw[P]at a;rw[aH j];cbv;exact a _ _ _ _ (Kp.refl _ _) Sl.nil q
 have K:r.e=0:=by omega
 have P:gR n r=(r.b.take n,⟨r.b.drop n,0⟩):=by unfold gR;rw[if_neg (by omega),if_neg j]
 rw[P]at a;rw[ag j];cbv;rw[ao A];refine bc g ?_;cbv;refine⟨Q (by omega),?_⟩;cbv;rw[ao A];refine bc g ?_;cbv;refine⟨T (by omega),?_⟩;cbv;rw[ao A];refine iB g (by simp) (λi e1=>?_);have l:Kp [p] h i:=by rw[e1];exact Kp.set (by simp)
 have lt:cf [5] h i:=Au l g (by decide);have u:=(congrFun e1 p).trans ae;have H:Sl 5 bS i (.slice (A .cut bb 0 (A .nat c) 1) n c) (r.b.take n):=(s.mono lt).pw (by omega) rfl;have I:Sl 5 bS i (.slice (A .cut bb z (A .nat c) 1) (m-n) (c-n)) (r.b.drop n):=(s.mono lt).gT f (by omega) rfl rfl;clear e1;cbv;rw[y];refine a _ _ _ _ l H ⟨_,_,_,d,?_,I,.inl ⟨rfl,by rcases G with⟨_,e⟩|⟨e,_⟩<;>simp_all⟩⟩;rw[u,K];show some (Obj.cells (List.toArray [_,_,_,_,_]) _ _)=_;rw[D,E]
def mD:Bs->Nat
 | []=>0
 |b::r=>b.toNat+256*mD r
theorem Aq:∀l:Bs,mD l<256^l.length
 | []=>by simp[mD]
 |b::r=>by
  have h:=Aq r;have a:=b.toNat_lt;simp only[mD,hJB,Nat.pow_succ];omega
theorem KM:∀(l:Bs) (b:UInt8),mD (l++[b])=mD l+b.toNat*256^l.length
 | [],b=>by simp[mD]
 |a::r,b=>by
  simp only[iQJ,mD,KM r b,hJB,Nat.pow_succ];rw[Nat.mul_add,Nat.mul_comm (256^r.length) 256,<-Nat.mul_assoc,<-Nat.mul_assoc,Nat.mul_comm 256 b.toNat];omega
theorem aXp(i:Nat):256^i=2^(8*i):=by rw[Nat.pow_mul]
theorem nU{x:Nat}(h:x<2^64):IntKind.u64.wrap (x:Int)=(x:Int):=by have:(2:Nat)^64=18446744073709551616:=rfl;exact IntWalk.u64_in _ (by omega)
theorem Pv{b:Nat}(g:i<8)(f:b<256):aC .shl .u64 (b:Int) ((8*i:Nat):Int)=((b*256^i:Nat):Int):=by
 have h:b*256^i<2^64:=by
  have a:(256:Nat)^i<=256^7:=Nat.pow_le_pow_right (by omega) (by omega);have:b*256^i<=255*256^7:=hKJ (by omega) a;have e:(255:Nat)*256^7<2^64:=by decide
  omega
 show IntKind.u64.wrap ((b:Int)*2^(min ((8*i:Nat):Int).toNat 64))=_;have c:min ((8*i:Nat):Int).toNat 64=8*i:=by omega
 rw[c];have d:(b:Int)*2^(8*i)=((b*256^i:Nat):Int):=by rw[aXp];push_cast;rfl
 rw[d,nU h]
theorem Vl{a b:Nat}(k:i<8)(d:a<256^i)(j:b<256):aC .or .u64 (a:Int) ((b*256^i:Nat):Int)=((a+b*256^i:Nat):Int):=by
 have f:(256:Nat)^i<=256^7:=Nat.pow_le_pow_right (by omega) (by omega);have h0:b*256^i<=255*256^i:=hKJ (by omega) (mr _);have g:(256:Nat)*256^7=2^64:=by decide
 have h:a+b*256^i<2^64:=by omega
 show IntKind.u64.wrap (((BitVec.ofInt 64 (a:Int)|||BitVec.ofInt 64 ((b*256^i:Nat):Int)).toNat:Nat):Int)=_;have c:(BitVec.ofInt 64 (a:Int)|||BitVec.ofInt 64 ((b*256^i:Nat):Int)).toNat=a+b*256^i:=by
  rw[BitVec.toNat_or,BitVec.toNat_ofInt,BitVec.toNat_ofInt];have e1:(((a:Int) % ((2^64:Nat):Int)).toNat)=a:=by rw[<-Int.natCast_emod,zw,Nat.mod_eq_of_lt (by omega)]
  have e:((((b*256^i:Nat):Int) % ((2^64:Nat):Int)).toNat)=b*256^i:=by rw[<-Int.natCast_emod,zw,Nat.mod_eq_of_lt (by omega)]
  rw[e1,e,Nat.or_comm];have:=Nat.two_pow_add_eq_or_of_lt (i:=8*i) (b:=a) (by rw[<-aXp];exact d) b;rw[<-aXp]at this;rw[Nat.mul_comm b,<-this,hKe]
 rw[c,nU h]
theorem Px{x:UInt8}(q:bS.R h cs x):∃z,cs=[.int .u8 z]/\bS.R h [.int .u8 z] x:=⟨_,q,rfl⟩
def kK(n:Nat)(r:yF):Int×yF:=(IntKind.i64.wrap (mD (gR n r).1:Int),(gR n r).2)
theorem Cu(n:Nat)(r:yF):(gR n r).1.length<=n:=by
 unfold gR;split
 .simp
 split
 .simp
 simp only[dW];omega
theorem Ed{r:yF}(q:BZ h p r)(C:aM z n)(hn:n<=8)
 (B:∀h',Kp [p] h h'->BZ h' p (kK n r).2->k (.int .i64 (kK n r).1) h'):
 Ct 198 [.pointer (some ⟨p,0,none⟩),.int .i64 z] h k:=by
 refine cp cJs Tryz.func198 λA hA=>?_;cbv;refine Pg q C (λj b m c k1 s q1=>?_);have hl:=Cu n r;have O:=s.len;have P:kK n r=(IntKind.i64.wrap (mD (gR n r).1:Int),(gR n r).2):=rfl;rw[P]at B;clear P;generalize gR n r=D at *;obtain⟨l,r1⟩:=D;have hl:l.length<=n:=hl;have O:m=l.length:=O;have s:Sl 5 bS j (.slice b m c) l:=s;have H:∀z:Int,z=((mD l:Nat):Int)->k (.int .i64 (A .conv .i64 z)) j:=λz C=>by
  have:=B j k1 q1;rw[hA.conv,C];exact this
 obtain⟨J,X⟩:∃J:Nat->(Int×Int)->ab->Prop,∀w g h',J w g h'=(h'=j/\∃i,aM g.1 i/\i<=m/\w=m-i/\g.2=((mD (l.take i):Nat):Int)):=⟨_,λ_ _ _=>rfl⟩;have y:J m (0,0) j:=by rw[X];exact⟨rfl,0,⟨rfl⟩,qT _,rfl,rfl⟩
 clear B;cbv;refine aK.go (G:=Int×Int) (λg=>[(12,.v (.int .i64 g.1)),(5,.v (.int .u64 g.2))]) (λ_=>[]) (λw g h'=>J w g h') m (0,0) (by constructor<;>cbv) y ?_
 intro w g M N;rw[X]at N;cbv;obtain⟨d,u⟩:=g;obtain⟨sk,i,f,Rc,hw,t⟩:=N;subst sk;have f:aM d i:=f;have t:u=((mD (l.take i):Nat):Int):=t;have Y:A .az .lss d (A .nat m)=decide (i<m):=f.pL (aM.nat m);have V:i<m->b.isSome=true/\0<=d/\d<(m:Int):=λo=>⟨s.aR,f.ix o⟩;have W:=λo=>f.succ (A:=A) o;have Z:0<=A .aC .mul .i64 8 d:=by rw[hA.aC,f.eq];show 0<=IntKind.i64.wrap (8*(i:Int));rw[IntWalk.i64_in _ (by omega)];omega
 have Q:∀(x:UInt8) (v:Int),l[i]? =some x->bS.R M [.int .u8 v] x->A .aC .or .u64 u (A .aC .shl .u64 (A .conv .u64 v) (A .aC .mul .i64 8 d))=((mD (l.take (i+1)):Nat):Int):=λx v hx a=>by
  have a:v=(x.toNat:Int):=by cases a;rfl
  subst a;have jZ:i<l.length:=(dB.1 hx).1;have e1:A .aC .mul .i64 8 d=((8*i:Nat):Int):=by rw[hA.aC,f.eq];show IntKind.i64.wrap (8*(i:Int))=_;rw[IntWalk.i64_in _ (by omega)];omega
  have MI:=x.toNat_lt;have U:A .conv .u64 (x.toNat:Int)=(x.toNat:Int):=by rw[hA.conv];exact nU (by omega)
  have I:mD (l.take i)<256^i:=by have:=Aq (l.take i);rwa[dW,zv (by omega)]at this
  rw[e1,U,hA.aC,Pv (by omega) (by omega),t,Vl (by omega) I (by omega),xx,hx];show _=((mD (l.take i++[x]):Nat):Int);rw[KM,dW,zv (by omega)]
 have F:∀E,E=((mD (l.take (i+1)):Nat):Int)->i<m->J (m-(i+1)) (A .aC .add .i64 d 1,E) M:=λE e o=>by rw[X];exact⟨rfl,i+1,W (by omega),o,rfl,e⟩
 have S:=f.eq;have R:=H u;clear H;cbv;rw[Y];by_cases I:i<m
 .obtain⟨x,hx⟩:=di l i;rw[aH I];clear X y W R;cbv;refine⟨V I,?_⟩;cbv;refine s.load hx S (λcs L=>?_);obtain⟨v,a,hR⟩:=Px L;subst a;have T:=F _ (Q x v hx hR) I;clear F Q hR L;cbv;refine⟨Z,?_⟩;cbv;refine⟨m-(i+1),(A .aC .add .i64 d 1,_),by omega,by constructor<;>cbv,T⟩
 have:i=l.length:=by omega
 have K:=R (by rw[t,this,hJz]);clear X F Q y W R;rw[ag I];cbv;exact K
def strOf(l:Bs):ByteArray:=⟨l.toArray⟩
def kU(s:ByteArray):Bs:=s.data.toList
theorem xJ(l:Bs):kU (strOf l)=l:=by simp[kU,strOf]
theorem uD:Tryz.prog.underlying 5=some (.int .u8):=by kernel_rfl
theorem sJ:Tryz.prog.underlying 35=some (.slice 5):=by kernel_rfl
theorem rV:Tryz.prog.underlying 9=some .string:=by kernel_rfl
theorem uP{l:Bs}(q:Sl e1 bS h (.slice b n c) l)(p:k (.string (strOf l)) h):
 dF (λ_=>Tryz.prog) (λ_=>Go.convert 35 9 (.slice b n c)) h k:=by
 have r:=q.len;subst r;refine⟨λw e=>⟨_,w,h,?_,p,bD.refl e⟩⟩;obtain⟨s,cap,e1,t,u,m⟩:=q.out;cases e1;rcases m with rfl| ⟨dM,off,cc,fr,rfl,g,i⟩
 .cases b with
  |none=>exact run_convert_bytes_nil w _ _ sJ uD _ _ _ rV
  |some a=>exact run_convert_bytes_back w _ _ _ a c [] sJ uD rV (λj d=>absurd d (by simp))
 refine run_convert_bytes_back w _ _ _ ⟨dM,off,none⟩ c l sJ uD rV (λj d=>?_);have hx:=i.2 j l[j] (by simp[d]);have hx:((cc.toList.drop (off+j*1)).take 1)=[.int .u8 (l[j].toNat:Int)]:=hx;have o:cc[off+j]? =some (.int .u8 (l[j].toNat:Int)):=by have:=congrArg (λz=>z[0]?) hx;simpa[hU,nM]using this
 have f:(⟨dM,off,none⟩:Addr).add j=⟨dM,off+j,none⟩:=by simp[Addr.add]
 rw[f];simp[World.cell?,e _ _ g,o]
theorem rW{s:ByteArray}(f:s.size<=2^40)(e:∀n c m h',m=s.size->h n=none->Le h h'->Sl 5 bS h' (.slice (some ⟨n,0,none⟩) m c) (kU s)->k (.slice (some ⟨n,0,none⟩) m c) h'):
 dF (λ_=>Tryz.prog) (λ_=>Go.convert 9 35 (.string s)) h k:=by
 refine⟨λw d=>?_⟩;have b:=run_bytes_of_string (P:=Tryz.prog) w 9 35 5 s rV sJ uD;have G:s.size<=grownCap w s.size 0 5:=grownCap_ge w _ _ _;generalize grownCap w s.size 0 5=cap at b G;have r:h w.heap.size=none:=d.kX (mr _);have iX:s.size=(kU s).length:=(HH (xs:=s.data)).symm;refine⟨_,_,bH h w.heap.size (.cells (bytesRow s cap) 5 ((bytesRow s cap).size,(bytesRow s cap).size+1)),b,e _ _ _ _ rfl r (Le.set r) ?_,?_⟩
 .refine⟨_,cap,by rw[iX],by rw[<-iX];exact G,by rw[<-iX];exact f,.inr ⟨_,0,_,_,rfl,ae,?_,λi x hx=>?_⟩⟩
  .show 0+(kU s).length*1<=_;rw[<-iX];unfold bytesRow;rw[hKS,dr,HH,Array.size_map];show 0+s.data.size*1<=_;omega
  have Z:i<(kU s).length:=(dB.1 hx).1;show(((bytesRow s cap).toList.drop (0+i*1)).take 1)=_;unfold bytesRow;apply rv;intro j;rw[hU,nM];by_cases a:j<1
  .rw[if_pos a];have A:j=0:=by omega
   subst A;rw[hKS,hJQ (by rw[HH,Array.size_map];have:i<s.data.toList.length:=Z;rw[HH]at this;omega)];have y:s.data.toList[i]? =some x:=hx;simp only[Array.toList_map,qy,qp,hKz,TG,y,Option.map_some];rfl
  rw[if_neg a];rw[qk (by simp;omega)]
 have:=bD.new (h:=h) (w:=w.drew) d (.cells (bytesRow s cap) 5 ((bytesRow s cap).size,(bytesRow s cap).size+1));exact⟨this.os,this.tape,this.output,this.size,this.zc,this.frame⟩
theorem fQB{r:yF}(q:BZ h p r)(b:∀h',Kp [p] h h'->BZ h' p (kK 8 r).2->k (.int .i64 (kK 8 r).1) h'):
 Ct 107 [.pointer (some ⟨p,0,none⟩)] h k:=by
 refine cp cKJ Tryz.func107 λA hA=>?_;cbv;refine Ed (n:=8) q ⟨rfl⟩ (by decide) (λa c d=>?_);have:=b a c d;generalize kK 8 r=D at *;cbv;exact this
theorem dQm{r:yF}(q:BZ h p r)(b:∀h',Kp [p] h h'->BZ h' p (kK 1 r).2->k (.int .i64 (kK 1 r).1) h'):
 Ct 109 [.pointer (some ⟨p,0,none⟩)] h k:=by
 refine cp cKH Tryz.func109 λA hA=>?_;cbv;refine Ed (n:=1) q ⟨rfl⟩ (by decide) (λa c d=>?_);have:=b a c d;generalize kK 1 r=D at *;cbv;exact this
def Cq(r:yF):Bs×yF:=gR (kK 2 r).1.toNat (kK 2 r).2
theorem PZ(r:yF):aM (kK 2 r).1 (kK 2 r).1.toNat/\(kK 2 r).1.toNat<65536:=by
 have b:=Aq (gR 2 r).1;have h:=Cu 2 r;have c:256^(gR 2 r).1.length<=256^2:=Nat.pow_le_pow_right (by omega) h;have a:(kK 2 r).1=(mD (gR 2 r).1:Int):=by show IntKind.i64.wrap _=_;rw[IntWalk.i64_in _ (by omega)]
 rw[a];exact⟨⟨by omega⟩,by omega⟩
theorem cXk{r:yF}(q:BZ h p r)(a:∀h',Kp [p] h h'->BZ h' p (Cq r).2->k (.string (strOf (Cq r).1)) h'):
 Ct 111 [.pointer (some ⟨p,0,none⟩)] h k:=by
 refine cp cKF Tryz.func111 λA hA=>?_;cbv;refine Ed (n:=2) q ⟨rfl⟩ (by decide) (λw f i=>?_);have e:=(PZ r).1;have a:∀h',Kp [p] h h'->BZ h' p (gR (kK 2 r).1.toNat (kK 2 r).2).2->k (.string (strOf (gR (kK 2 r).1.toNat (kK 2 r).2).1)) h':=a;generalize kK 2 r=D at *;obtain⟨z,u⟩:=D;generalize z.toNat=n at *;cbv;refine Pg i e (λd b m c g v o=>?_);have j:=a d (f.trans g) o;generalize gR n u=D at *;obtain⟨l,x⟩:=D;generalize s:strOf l=t at *;cbv;refine uP v ?_;rw[s];cbv;exact j
def RT(r:yF):Int:=if r.e=0/\r.b≠[]then 9 else r.e
theorem fQC{r:yF}(q:BZ h p r)(a:k (.int .i64 (RT r)) h):
 Ct 115 [.pointer (some ⟨p,0,none⟩)] h k:=by
 obtain⟨A,hA⟩:=Ar.ex;obtain⟨bb,m,c,d,g,s,n⟩:=q.out;have l:=s.len;have i:A .az .eql r.e 0=decide (r.e=0):=aq A ..;have j:A .az .gtr (A .nat m) 0=decide (r.b≠[]):=by
  rw[aO A,hA.nat];refine decide_eq_decide.2 ?_;rw[kH,l];constructor
  .intro h e;rw[e]at h;simp at h
  intro h;have:=hJS.2 h;omega
 refine dH cKB A Tryz.func115 ?_;cbv;rw[ao A];refine bc g ?_;cbv;rw[i];by_cases f:r.e=0
 .rw[aH f];cbv;rw[ao A];refine bc g ?_;cbv;rw[j];by_cases b:r.b≠[]
  .rw[show RT r=9 from if_pos ⟨f,b⟩]at a;rw[aH b];cbv;exact a
  rw[show RT r=r.e from if_neg (λg=>b g.2)]at a;rw[ag b];cbv;rw[ao A];refine bc g ?_;cbv;exact a
 rw[show RT r=r.e from if_neg (λg=>f g.1)]at a;rw[ag f];cbv;rw[ao A];refine bc g ?_;cbv;exact a
def dZd:List Nat:=[5,104,135,134,344]
def yk:Sh Bs where
 n:=1
 R h cs xs:=∃v,cs=[v]/\∃e∈dZd,Sl e bS h v xs
 len:=by rintro h cs x ⟨v,rfl,-⟩;rfl
 one:=by rintro h cs x ⟨v,rfl,e,-,q⟩;obtain⟨b,cap,rfl,-⟩:=q.out;rfl
 tys:=dZd
 mono:=by rintro h h' cs x hl ⟨v,rfl,e,he,q⟩;exact⟨v,rfl,e,he,q.mono (hl.sub λt ht=>by simp[bS]at ht;rw[ht];exact he)⟩
theorem dC{e:Nat}{v:Value}{xs:Bs}(q:Sl e bS h v xs)(a:e∈dZd:=by decide):yk.R h [v] xs:=⟨v,rfl,e,a,q⟩
theorem cQl(d:aM z m)(k:m<=2^38):
 Ct 307 [.slice none 0 0,.int .i64 z] h (λv h'=>Le h h'/\∃b c',v=.slice b 0 c'/\aT 5 bS h h' (.slice b 0 c') ([]:Bs)):=by
 obtain⟨A,hA⟩:=Ar.ex;have h0:aM (A .nat 0) 0:=aM.nat 0;have a:=d.sub (A:=A) (h0.sub (A:=A) h0 (by omega) (by omega)) (by omega) (by omega);simp only[hKr,hJW]at a;refine dH cXP A Tryz.func307 ?_;cbv;rw[d.vf (A:=A)];cbv;generalize e:A .az .gtr (A .aC .sub .i64 z (A .aC .sub .i64 (A .nat 0) (A .nat 0))) 0=u;generalize g:A .aC .sub .i64 z (A .aC .sub .i64 (A .nat 0) (A .nat 0))=w at a e;rw[aO A]at e;cases u with
 |true=>
  have p:=qH e;have J:0<m:=by have:=a.eq;omega
  cbv;have M:(0:Int)<=A .nat 0/\A .nat 0<=((0:Nat):Int):=by have:=h0.eq;omega
  refine⟨M,?_⟩;cbv;refine⟨rG a (by omega) (by decide),?_⟩;cbv;rw[cQ (A:=A) a,cQ (A:=A) h0];refine ly (s:=bS) (xs:=([]:Bs)) Sl.nil (by omega) rfl (by decide) (by omega) rfl rfl (λn c i V l j o=>?_);rw[qp];have f:(0:Int)<=A .nat 0/\A .nat 0<=((c:Nat):Int):=by have:=h0.eq;omega
  cbv;refine⟨f,?_⟩;cbv;rw[cQ (A:=A) h0,rC (A:=A)];exact⟨l,_,_,rfl,o.buf V rfl⟩
 |false=>cbv;exact⟨Le.refl _,_,_,rfl,aT.nil⟩
theorem vN{L:List (Bs)}(q:Sl 35 yk h (.slice b n c) L)(Q:L.flatten.length<=2^38)(r:∀h' o n' c',Le h h'->aT 5 bS h h' (.slice o n' c') L.flatten->k (.slice o n' c') h'):
 Ct 245 [.slice b n c] h k:=by
 obtain⟨F,W⟩:∃F,F=k:=⟨_,rfl⟩;rw[<-W];have H:=r;rw[<-W]at H;clear r;have D:=q.len;obtain⟨iY,fX⟩:=q.bound;refine cp cZJ Tryz.func245 λA hA=>?_;cbv;refine aK.go (G:=Int×Int) (λg=>[(11,.v (.int .i64 g.1)),(3,.v (.int .i64 g.2))]) (λ_=>[])
  (λk g h'=>∃i:Nat,aM g.1 i/\k=n-i/\i<=n/\h'=h/\aM g.2 (L.take i).flatten.length) n (0,0) ⟨?_,?_,?_⟩ ⟨0,⟨rfl⟩,by omega,by omega,rfl,⟨rfl⟩⟩ ?_
 .cbv
 .cbv
 .cbv
 intro k g h' t;cbv;obtain⟨i,a,r,O,rfl,j⟩:=t;refine aL (λd=>?_) (λd=>?_)
 .have I:=a.lt d;clear d;cbv;obtain⟨x,hx⟩:=di L i;refine⟨⟨q.aR,a.ix I⟩,?_⟩;cbv;refine q.load hx a.eq (λcs u=>?_);obtain⟨v,rfl,e1,U,f⟩:=u;obtain⟨y,s,B,rfl⟩:=f.form;have P:=f.len;have l:=sB L (i+1);rw[eX hx,dr,<-P]at l;have E:=j.add (A:=A) (aM.nat (A:=A) s) (by omega);have V:=eX hx;cbv;rw[E.vf (A:=A)];cbv;refine⟨n-(i+1),(_,A .aC .add .i64 g.2 (A .nat s)),by omega,by constructor<;>cbv,i+1,a.succ (A:=A),rfl,by omega,rfl,?_⟩
  .rw[V,dr,<-P];exact E
 have K:=a.ge d;have fZ:i=n:=by omega
 rw[hO (by omega)]at j;obtain⟨z,w⟩:=g;have j:aM w L.flatten.length:=j;cbv;refine(cQl j Q).mono (λv h1 hR=>?_);obtain⟨s,y,B,rfl,e⟩:=hR;cbv;refine aK.go (G:=Int×Option Addr×Nat×Nat) (λg=>[(27,.v (.int .i64 g.1)),(6,.v (.slice g.2.1 g.2.2.1 g.2.2.2))]) (λ_=>[])
  (λk g p=>∃i:Nat,aM g.1 i/\k=n-i/\i<=n/\Le h' p/\aT 5 bS h' p (.slice g.2.1 g.2.2.1 g.2.2.2) (L.take i).flatten) n (0,y,0,B) ⟨?_,?_,?_⟩ ⟨0,⟨rfl⟩,by omega,by omega,s,e⟩ ?_
 .cbv
 .cbv
 .cbv
 intro k g p t;cbv;obtain⟨i,a,r,O,l,e⟩:=t;obtain⟨z,M,C,N⟩:=g;have a:aM z i:=a;have e:aT 5 bS h' p (.slice M C N) (L.take i).flatten:=e;refine aL (λd=>?_) (λd=>?_)
 .have I:=a.lt d;clear d;cbv;obtain⟨x,hx⟩:=di L i;refine⟨⟨q.aR,a.ix I⟩,?_⟩;cbv;refine(q.mono (l.t _)).load hx a.eq (λcs u=>?_);obtain⟨v,rfl,e1,U,f⟩:=u;obtain⟨Y,l2,Z,rfl⟩:=f.form;have R:=f.len;have T:C=(L.take i).flatten.length:=e.sl.len;have J:=sB L (i+1);have V:=eX hx;rw[V,dr,<-R,<-T]at J;cbv;refine e.app f (by decide) rfl (by decide) (by omega) l (λm o c' h3 hm S t3 k3 X=>?_);cbv;refine⟨n-(i+1),(_,o,m,c'),by omega,by constructor<;>cbv,i+1,a.succ (A:=A),rfl,by omega,S,?_⟩
  .rw[V];exact X
 have K:=a.ge d;cbv;rw[hO (by omega)]at e;exact H _ _ _ _ l e
theorem Eh{e:Nat}(c:s.n=1)(d:h n=some (.cells (List.toArray cs) e (0,0)))(hl:cs.length=xs.length)(hx:xs.length<=2^40)(r:∀(i:Nat) (v:Value) (x:a),cs[i]? =some v->xs[i]? =some x->s.R h [v] x)(g:m=xs.length):Sl e s h (.slice (some ⟨n,0,none⟩) m m) xs:=by
 subst g;refine Sl.fresh d ⟨by rw[c];omega,λi x hx=>?_⟩ hx (mr _);have b:i<cs.length:=by rw[hl];exact(dB.1 hx).1
 have f:cs[i]? =some cs[i]:=by simp[b]
 have:=r i _ x f hx;rw[c,qp,TG,show(cs.drop i).take 1=[cs[i]]from by rw[qM b];rfl]
 exact this
def u8(n:Int):UInt8:=UInt8.ofNat (n % 256).toNat
theorem iA[hA:aV A](n:Int):bS.R h [.int .u8 (A .conv .u8 n)] (u8 n):=by
 show [Value.int .u8 (A .conv .u8 n)]=[.int .u8 ((u8 n).toNat:Int)];rw[hA.conv];have a:IntKind.u8.wrap n=n % 256:=IntKind.wrap_u8 n;have b:((u8 n).toNat:Int)=n % 256:=by unfold u8;rw[iXa];omega
 show [Value.int .u8 (IntKind.u8.wrap n)]=_;rw[a,b]
theorem tH{l:Bs}(q:Sl 5 bS h (.slice b m c) l)(C:m<=2^37)(z:Int)(u:∀h' d n' c',Le h h'->aT 5 bS h h' (.slice d n' c') (l++[u8 z])->k (.slice d n' c') h'):
 Ct 147 [.slice b m c,.int .i64 z] h k:=by
 obtain⟨A,hA⟩:=Ar.ex;have e:=q.len;have v:=iA (A:=A) (h:=h) z;refine dH cKb A Tryz.func147 ?_;cbv;intro x i o e1;have f:Le h i:=by rw[e1];exact Le.set o
 have p:=(congrFun e1 x).trans ae;cbv;intro y t E g;have a:Le i t:=by rw[g];exact Le.set E
 have r:=(congrFun g y).trans ae;have j:([l,[u8 z]]:List Bs).flatten=l++[u8 z]:=by simp
 cbv;refine vN (L:=[l,[u8 z]]) (lN (s:=yk) rfl r (dC (q.mono ((f.trans a).t _))) (dC (bC (s:=bS) (a _ _ p) v))) (by rw[j,dr,<-e,hJF];omega) (λB d n' c' w n=>?_);rw[j]at n;cbv;exact u _ _ _ _ ((f.trans a).trans w) (n.base (f.trans a))
def jr(n:Int)(k:Nat):UInt8:=u8 (n % 18446744073709551616 / (2^(8*k)))
def cC(n:Int):Bs:=(List.range 8).map (jr n)
theorem cR(n:Int):(cC n).length=8:=rfl
theorem oR(f:Nat->a)(h:i<n):((List.range n).map f).take (i+1)=((List.range n).map f).take i++[f i]:=by rw[xx];congr 1;simp[h]
theorem ma(n:Int):IntKind.u64.wrap n=n % 18446744073709551616:=by simp[IntKind.wrap,IntKind.bits,IntKind.signed]
theorem FU[hA:aV A](n:Int)(d:aM z i)(e:i<8):bS.R h [.int .u8 (A .conv .u8 (A .aC .shr .u64 (A .conv .u64 n) (A .aC .mul .i64 8 z)))] (jr n i):=by
 have a:A .aC .mul .i64 8 z=((8*i:Nat):Int):=by rw[hA.aC,d.eq];show IntKind.i64.wrap (8*(i:Int))=_;rw[IntWalk.i64_in _ (by omega)];omega
 have b:A .conv .u64 n=n % 18446744073709551616:=by rw[hA.conv];exact ma n
 have c:A .aC .shr .u64 (A .conv .u64 n) (A .aC .mul .i64 8 z)=n % 18446744073709551616 / (2^(8*i)):=by rw[a,b,hA.aC];show(n % 18446744073709551616).fdiv (2^(min ((8*i:Nat):Int).toNat 64))=_;rw[show min ((8*i:Nat):Int).toNat 64=8*i by omega,hJU _ (Int.le_of_lt (Int.pow_pos (by decide)))]
 rw[c];exact iA _
theorem NS{l:Bs}(q:Sl e1 bS h (.slice b m c) l)(hm:m<=2^37)(n:Int)(S:∀h' a n' c',Le h h'->aT 5 bS h h' (.slice a n' c') (l++cC n)->k (.slice a n' c') h'):
 Ct 185 [.slice b m c,.int .i64 n] h k:=by
 have j:=q.len;obtain⟨J,X⟩:∃J:Nat->(Int×Option Addr×Nat×Nat)->ab->Prop,∀w g h',J w g h'=(∃i,aM g.1 i/\i<=8/\w=8-i/\Le h h'/\aT 5 bS h h' (.slice g.2.1 g.2.2.1 g.2.2.2) (l++(cC n).take i)):=⟨_,λ_ _ _=>rfl⟩;refine cp cJD Tryz.func185 λA hA=>?_;cbv;refine Be q (λP v x U q1=>?_);have t:J 8 (0,v,m,x) P:=by rw[X];exact⟨0,⟨rfl⟩,by omega,rfl,U,by simpa using q1⟩
 cbv;refine aK.go (G:=Int×Option Addr×Nat×Nat) (λg=>[(9,.v (.int .i64 g.1)),(5,.v (.slice g.2.1 g.2.2.1 g.2.2.2))]) (λ_=>[]) (λw g h'=>J w g h') 8 (0,v,m,x) (by constructor<;>cbv) t ?_
 intro w g r B;rw[X]at B;cbv;obtain⟨z,L,O,N⟩:=g;obtain⟨i,e,H,hw,u,f⟩:=B;have e:aM z i:=e;have f:aT 5 bS h r (.slice L O N) (l++(cC n).take i):=f;have pW:=f.sl.len;rw[dr,dW,cR,<-j]at pW;have K:A .az .lss z 8=decide (i<8):=by rw[aJ A,e.eq];exact decide_eq_decide.2 (by omega)
 have o:i<8->0<=A .aC .mul .i64 8 z:=λd=>by
  rw[hA.aC,e.eq];show 0<=IntKind.i64.wrap (8*(i:Int));rw[IntWalk.i64_in _ (by omega)];omega
 have hR:=λd:i<8=>FU (A:=A) (h:=r) n e d;have W:=e.succ (A:=A);have E:=λd:i<8=>oR (jr n) d;have E:i<8->(cC n).take (i+1)=(cC n).take i++[jr n i]:=E;have F:∀h' m' a c',i<8->Le h h'->aT 5 bS h h' (.slice a m' c') (l++(cC n).take i++[jr n i])->J (8-(i+1)) (A .aC .add .i64 z 1,a,m',c') h':=λh' m' a c' d T q'=>by
  rw[X];exact⟨i+1,W,d,rfl,T,by rw[E d,<-ym];exact q'⟩
 rw[K];by_cases I:i<8
 .have hR:=hR I;have o:=o I;generalize jr n i=y at *;rw[aH I];clear X E t W;cbv;refine⟨o,?_⟩;cbv;intro Z Q M p;have C:Le r Q:=by rw[p];exact Le.set M
  have q3:=bC (s:=bS) ((congrFun p Z).trans ae) hR;clear p;cbv;refine(f.mono (C.t _)).app q3 (by decide) rfl (by decide) (by omega) (u.trans C) (λm' a c' R GR V t4 k4 q4=>?_);have D:=F R m' a c' I V q4;clear F;cbv;refine⟨8-(i+1),(_,a,m',c'),by omega,by constructor<;>cbv,D⟩
 rw[ag I];have hi:i=8:=by omega
 rw[hO (by rw[cR];omega)]at f;clear X E t W F hR o;cbv;refine Be f.sl (λh5 b5 c5 Y q5=>?_);cbv;exact S _ _ _ _ (u.trans Y) (q5.base u)
def ku(s:ByteArray):Bs:=(kU s).take 65535
def py(s:ByteArray):Bs:=[u8 (min s.size 65535:Nat),u8 ((min s.size 65535:Nat) / 256:Nat)]
theorem Bp{e1:Nat}{l:Bs}(q:Sl 5 bS h (.slice b m c) l)(hm:m<=2^37)(s:ByteArray)(hs:s.size<=2^40)(p:∀h' d n' c',Le h h'->aT 5 bS h h' (.slice d n' c') (l++(py s++ku s))->k (.slice d n' c') h'):
 Ct 146 [.slice b m c,.string s] h k:=by
 obtain⟨A,hA⟩:=Ar.ex;have r:=q.len;obtain⟨j,o⟩:∃j,j=min s.size 65535:=⟨_,rfl⟩;have B:A .iT (A .iQ s) 65535=(j:Int):=by
  have:A .iT (A .iQ s) 65535=min (s.size:Int) 65535:=by rw[hA.iT,hA.iQ]
  omega
 obtain⟨t,f⟩:∃t,t=A .sub s 0 (j:Int):=⟨_,rfl⟩;have J:t=s.extract 0 j:=by rw[f,hA.sub];rfl
 have Q:t.size=j:=by rw[J,ByteArray.size_extract];omega
 have S:kU t=ku s:=by rw[J];unfold ku kU;simp only[hKY,hKZ];rw[o];simp only[List.extract,hKr,hKD];show List.take (min s.data.size 65535) _=_;rw[<-HH,Nat.min_comm,<-List.take_eq_take_min]
 have Y:A .iQ t=(j:Int):=by rw[hA.iQ];show(t.size:Int)=_;rw[Q]
 have z:0<=A .iT (A .iQ s) 65535/\A .iT (A .iQ s) 65535<=(s.size:Int):=by rw[B];omega
 have K:t.size<=2^40:=by omega
 have H:A .sub s 0 (A .iT (A .iQ s) 65535)=t:=by rw[B,f]
 have Z:=iA (A:=A) (h:=h) (j:Int);have V:=iA (A:=A) (h:=h) ((j / 256:Nat):Int);have a:A .aC .shr .i64 (j:Int) 8=((j / 256:Nat):Int):=by rw[hA.aC];show((j:Int)).fdiv (2^8)=_;rw[hJU _ (by decide)];omega
 have P:py s=[u8 (j:Int),u8 ((j / 256:Nat):Int)]:=by unfold py;rw[<-o]
 rw[P]at p;clear J f P;refine dH cKc A Tryz.func146 ?_;cbv;refine⟨z,?_⟩;cbv;rw[H];refine⟨by decide,?_⟩;cbv;rw[Y,a];intro v i x e1;have I:Le h i:=by rw[e1];exact Le.set x
 have C:=(congrFun e1 v).trans ae;clear e1;cbv;refine rW K (λn2 W m2 E U X u T=>?_);cbv;intro O F M e;have g:Le E F:=by rw[e];exact Le.set M
 have D:=(congrFun e O).trans ae;have R:Sl 5 bS i (.slice (some ⟨v,0,none⟩) 2 2) [u8 (j:Int),u8 ((j / 256:Nat):Int)]:=lN (s:=bS) rfl C Z V;have y:=(I.trans u).trans g;have n:([l,[u8 (j:Int),u8 ((j / 256:Nat):Int)],kU t]:List Bs).flatten=l++([u8 (j:Int),u8 ((j / 256:Nat):Int)]++ku s):=by rw[S];simp
 have G:(l++([u8 (j:Int),u8 ((j / 256:Nat):Int)]++ku s)).length<=2^38:=by
  have:(ku s).length<=65535:=by unfold ku;rw[dW];omega
  simp only[dr,hJB,hJE];omega
 clear e;cbv;refine vN (L:=[l,[u8 (j:Int),u8 ((j / 256:Nat):Int)],kU t]) (qq (s:=yk) rfl D (dC (q.mono (y.t _))) (dC (R.mono ((u.trans g).t _))) (dC (T.mono (g.t _)))) (by rw[n];exact G) (λh4 d n' c' N w=>?_);rw[n]at w;cbv;exact p _ _ _ _ (y.trans N) (w.base y)
abbrev St:=Option Bs
def oK(r:yF):St:=if r.e=0 then some r.b else none
def dO(n:Nat):St->Bs×St
 |none=>([],none)
 |some b=>if n<=b.length then(b.take n,some (b.drop n))else([],none)
theorem wD(n:Nat)(r:yF):(gR n r).1=(dO n (oK r)).1/\oK (gR n r).2=(dO n (oK r)).2:=by
 unfold gR oK nD;by_cases h:r.e=0
 .rw[if_pos h];by_cases a:n>r.b.length
  .rw[if_pos a,if_pos ⟨by decide,h⟩];simp only[dO];rw[if_neg (by omega)];exact⟨rfl,rfl⟩
  rw[if_neg a,if_neg (λg=>g h)];simp only[dO];rw[if_pos (by omega)];exact⟨rfl,rfl⟩
 rw[if_neg h];by_cases a:n>r.b.length
 .rw[if_pos a,if_neg (λg=>h g.2)];exact⟨rfl,if_neg h⟩
 rw[if_neg a,if_pos h];exact⟨rfl,if_neg h⟩
def ar(n:Nat)(s:St):Nat×St:=(mD (dO n s).1,(dO n s).2)
def aG(s:St):Bs×St:=dO (ar 2 s).1 (ar 2 s).2
def tA(e:Int)(s:St):St:=if e=0 then s else none
theorem nW(n:Nat)(s:St):(dO n s).1.length<=n:=by
 cases s with
 |none=>simp[dO]
 |some b=>
  simp only[dO];split
  .simp only[dW];omega
  simp
theorem oS(n:Nat)(s:St):(ar n s).1<256^n:=by have h:=Aq (dO n s).1;exact Nat.lt_of_lt_of_le h (Nat.pow_le_pow_right (by omega) (nW n s))
theorem Mf(x:Int)(r:yF):oK (nD x r)=tA x (oK r):=by
 by_cases hx:x=0
 .have:nD x r=r:=if_neg (λg=>g.1 hx);rw[this];exact(if_pos hx).symm
 have a:tA x (oK r)=none:=if_neg hx;rw[a];by_cases h:r.e=0
 .have:nD x r=⟨r.b,x⟩:=if_pos ⟨hx,h⟩;rw[this];exact if_neg hx
 have:nD x r=r:=if_neg (λg=>h g.2);rw[this];exact if_neg h
structure fF(h:ab)(p:Nat)(s:St):Prop where
 out:∃r,BZ h p r/\oK r=s
theorem fF.le{s:St}(q:fF h p s)(l:Le h h'):fF h' p s:=by obtain⟨r,a,b⟩:=q.out;exact⟨r,a.le l,b⟩
theorem fF.lt{s:St}(q:fF h p s)(k:Kp [p] h h')(e:361∉tys):cf tys h h':=by obtain⟨r,a,b⟩:=q.out;exact a.lt k e
theorem fF.has{s:St}(q:fF h p s):h p≠none:=by obtain⟨r,a,b⟩:=q.out;obtain⟨bb,n,c,d,g,-⟩:=a.out;rw[g];exact λe=>by cases e
theorem JZ{xs:Bs}{len:Nat}(q:Sl e1 bS h (.slice b len cap) xs)
 (a:∀h' p,h p=none->Le h h'->fF h' p (some xs)->k (.pointer (some ⟨p,0,none⟩)) h'):
 Ct 106 [.slice b len cap] h k:=
 fQy q λh' p h0 l c=>a h' p h0 l ⟨_,c,rfl⟩
theorem pH{s:St}(q:fF h p s)(x:Int)(a:∀h',Kp [p] h h'->fF h' p (tA x s)->k (.tuple #[]) h'):
 Ct 112 [.pointer (some ⟨p,0,none⟩),.int .i64 x] h k:=by
 obtain⟨r,c,rfl⟩:=q.out;exact aQk c x λh' b d=>a h' b ⟨_,d,Mf x r⟩
theorem wU(r:yF):(kK n r).1=IntKind.i64.wrap ((ar n (oK r)).1:Int)/\oK (kK n r).2=(ar n (oK r)).2:=by have:=wD n r;exact⟨by unfold kK ar;rw[this.1],this.2⟩
theorem TK{s:St}(q:fF h p s)(a:∀h',Kp [p] h h'->fF h' p (ar 8 s).2->k (.int .i64 (IntKind.i64.wrap ((ar 8 s).1:Int))) h'):
 Ct 107 [.pointer (some ⟨p,0,none⟩)] h k:=by
 obtain⟨r,c,rfl⟩:=q.out;have:=wU (n:=8) r;exact fQB c λh' b d=>this.1 ▸ a h' b ⟨_,d,this.2⟩
theorem dQl{s:St}(q:fF h p s)(c:∀h',Kp [p] h h'->fF h' p (ar 1 s).2->k (.int .i64 ((ar 1 s).1:Int)) h'):
 Ct 109 [.pointer (some ⟨p,0,none⟩)] h k:=by
 obtain⟨r,e,rfl⟩:=q.out;have a:=wU (n:=1) r;have g:=oS 1 (oK r);have b:(kK 1 r).1=((ar 1 (oK r)).1:Int):=by rw[a.1,IntWalk.i64_in _ (by omega)]
 exact dQm e λh' d f=>b ▸ c h' d ⟨_,f,a.2⟩
theorem cXj{s:St}(q:fF h p s)(d:∀h',Kp [p] h h'->fF h' p (aG s).2->k (.string (strOf (aG s).1)) h'):
 Ct 111 [.pointer (some ⟨p,0,none⟩)] h k:=by
 obtain⟨r,g,rfl⟩:=q.out;have c:=wU (n:=2) r;have j:=oS 2 (oK r);have a:(kK 2 r).1.toNat=(ar 2 (oK r)).1:=by rw[c.1,IntWalk.i64_in _ (by omega)];omega
 have b:=wD (kK 2 r).1.toNat (kK 2 r).2;rw[a,c.2]at b;have e1:(Cq r).1=(aG (oK r)).1:=by unfold Cq;rw[a];exact b.1
 have e:oK (Cq r).2=(aG (oK r)).2:=by unfold Cq;rw[a];exact b.2
 exact cXk g λh' f i=>e1 ▸ d h' f ⟨_,i,e⟩
theorem Cb{s:St}(q:fF h p s)(c:∀e:Int,(e=0↔s=some [])->k (.int .i64 e) h):
 Ct 115 [.pointer (some ⟨p,0,none⟩)] h k:=by
 obtain⟨r,d,rfl⟩:=q.out;refine fQC d (c _ ?_);unfold RT oK;by_cases a:r.e=0
 .by_cases b:r.b=[]
  .rw[if_neg (λg=>g.2 b),if_pos a];simp[a,b]
  rw[if_pos ⟨a,b⟩,if_pos a];simp[b]
 rw[if_neg (λg=>a g.1),if_neg a];simp[a]
end Go.S
namespace Go.Sx
variable {h h':ab}
def cY(ex:List Nat)(h h':ab):Prop:=∀b o,h b=some o->(∀c e fr,o=.cells c e fr->e∉ex)->h' b=some o
theorem Le.x(l:Le h h')(ex:List Nat):cY ex h h':=λb o a _=>l b o a
theorem cY.trans{ex:List Nat}{a b c:ab}(x:cY ex a b)(y:cY ex b c):cY ex a c:=λk o q n=>y k o (x k o q n) n
theorem cY.refl(ex:List Nat)(h:ab):cY ex h h:=λ_ _ x _=>x
theorem cY.t{ex:List Nat}(x:cY ex h h'){tys:List Nat}(d:∀t∈tys,t∉ex):cf tys h h':=λb c e fr m a=>x b _ a (λc' g E f=>by cases f;exact d _ m)
theorem Kp.x{ex:List Nat}{bs:List Nat}(k:Kp bs h h')(d:∀b∈bs,∀o,h b=some o->∃c e fr,o=.cells c e fr/\e∈ex):cY ex h h':=λb o j a=>by
 by_cases m:b∈bs
 .obtain⟨c,e,fr,rfl,f⟩:=d b m o j;exact absurd f (a _ _ _ rfl)
 exact k b o j m
theorem jM{g:Type}{e:Nat}{s:Sh g}{l:Nat}{A:Ar}[aV A]{bytes:Nat}{z:List Value}{x:g}{k:Value->ab->Prop}(hx:∀h,s.R h z x)(hl:l<=2^40)(j:bytes<=128)
 (d:∀n h',h n=none->Le h h'->cM e s h' n l (List.replicate l x)->k (.slice (some ⟨n,0,none⟩) l l) h'):
 tF h e (A .nat l) (A .nat l) bytes z k:=by
 have f:=s.len (hx h);have p:(2:Nat)^40=1099511627776:=rfl;have O:(2:Int)^48=281474976710656:=rfl;rw[aV.nat (A:=A)];refine⟨by simp only[kH];omega,⟨by rw[O];simp only[kH];omega,?_⟩,λn h' e1 a=>?_⟩
 .rw[O];simp only[kH];have:bytes*l<=128*l:=xt _ j;have b:((bytes*l:Nat):Int)<=((128*l:Nat):Int):=iQE.2 this;simp only[iQD]at b;omega
 simp only[kH,zw]at a |-;have C:(fI l z).length=l*s.n:=by rw[eB,f]
 refine d n h' e1 (by rw[a];exact Le.set e1) ⟨⟨fI l z,by rw[a,ae],⟨by rw[C];simp,λi y c=>?_⟩,C⟩,by simp,by simpa using hl⟩;have r:i<l:=by have:=(dB.1 c).1;simpa using this
 have U:y=x:=by obtain⟨q,b⟩:=dB.1 c;rw[<-b];simp
 subst U;have key:((fI l z).drop (0+i*s.n)).take s.n=z:=by
  clear a d C c;rw[qp,<-f];induction i generalizing l with
  |zero=>obtain⟨m,rfl⟩:∃m,l=m+1:=⟨l-1,by omega⟩;rw[Nat.zero_mul,hKD];show(z++fI m z).take z.length=z;simp
  |succ i o=>obtain⟨m,rfl⟩:∃m,l=m+1:=⟨l-1,by omega⟩;show((z++fI m z).drop ((i+1)*z.length)).take z.length=z;rw[hJI,hKe,<-hKa,iQZ];exact o (by omega) (by omega)
 rw[key];exact hx h'
end Go.Sx
namespace Go.S
open Go.Sx Go.Proofs
variable {n:Int}{i p:Nat}{k:Value->ab->Prop}{h h':ab}
def aA(b:Bs):List Value:=b.map λx=>.int .u8 (x.toNat:Int)
theorem fK:∀b:Bs,gE (aA b)=true
 | []=>rfl
 |x::r=>by show gE (_::aA r)=true;unfold gE;exact fK r
def iC:Sh Bs where
 n:=64
 R _ cs b:=cs=aA b/\b.length=64
 len:=by rintro h cs b ⟨rfl,hl⟩;simpa[aA]using hl
 one:=by rintro h cs b ⟨rfl,-⟩;exact fK b
 tys:=[]
 mono:=λ_ q=>q
def yL:Bs:=List.replicate 64 0
def Iz:Sh (Int×Bs)where
 n:=65
 R _ cs w:=cs=.int .i64 w.1::aA w.2/\w.2.length=64
 len:=by rintro h cs b ⟨rfl,hl⟩;simpa[aA]using hl
 one:=by rintro h cs b ⟨rfl,-⟩;unfold gE;exact fK _
 tys:=[]
 mono:=λ_ q=>q
structure Dk where
 left:Int
 dead:Bool
 kept:List Bs
 now:List Bs
 ws:List (Int×Bs)
abbrev dT:List Nat:=[120,135,455]
structure kf(h:ab)(p:Nat)(D:Dk):Prop where
 out:∃kb nb wb wn wc d,h p=some (.cells (List.toArray [.int .i64 D.left,.int .u32 d,.slice (some ⟨kb,0,none⟩) D.now.length D.now.length,.slice (some ⟨nb,0,none⟩) D.now.length D.now.length,.slice wb wn wc]) 120 (0,0))/\
  cM 135 iC h kb D.now.length D.kept/\cM 135 iC h nb D.now.length D.now/\D.kept.length=D.now.length/\kb≠nb/\d=(if D.dead then 1 else 0)/\
  aT 455 Iz (λ_=>none) h (.slice wb wn wc) D.ws/\D.now.length<=4096
theorem kf.lt{D:Dk}(q:kf h p D)(l:cf dT h h'):kf h' p D:=by obtain⟨k,n,wb,c,wc,d,g,o1,o2,e1,e,a,w,b⟩:=q.out;exact⟨k,n,wb,c,wc,d,l _ _ _ _ (by decide) g,o1.mono (l.sub),o2.mono (l.sub),e1,e,a,w.mono (l.sub),b⟩
theorem kf.le{D:Dk}(q:kf h p D)(l:Le h h'):kf h' p D:=q.lt (l.t _)
theorem TE{D:Dk}(q:kf h p D)(a:∀z,aM z D.now.length->k (.int .i64 z) h):Ct 242 [.pointer (some ⟨p,0,none⟩)] h k:=by obtain⟨A,hA⟩:=Ar.ex;obtain⟨i,n,wb,j,wc,d,g,o1,o2,e1,e,c,w,f⟩:=q.out;have b:=aM.nat (A:=A) D.now.length;generalize D.now.length=m at *;refine dH cZM A Tryz.func242 ?_;cbv;rw[ao A];refine bc g ?_;cbv;exact a _ b
theorem aQl{D:Dk}(q:kf h p D)(c:k (.bool D.dead) h):Ct 280 [.pointer (some ⟨p,0,none⟩)] h k:=by
 obtain⟨l,n,wb,o,wc,d,g,o1,o2,e1,f,e,w,i⟩:=q.out;have b:decide (d≠0)=D.dead:=by rw[e];cases D.dead<;>rfl
 generalize D.dead=t at *;refine cp cZk Tryz.func280 λA hA=>?_;cbv;rw[ao A];refine(kY (cP g rfl)).mono (λv j hR=>?_);obtain⟨m,rfl,a,rfl⟩:=hR;rw[b]at a;subst a;cbv;exact c
def dL(D:Dk)(n:Int)(size:Int):Int:=if D.dead then 15 else if n<0\/n>=D.now.length\/size>64 then 1 else 0
theorem Hr{D:Dk}(q:kf h p D)(n size:Int)(a:k (.int .i64 (dL D n size)) h):Ct 195 [.pointer (some ⟨p,0,none⟩),.int .i64 n,.int .i64 size] h k:=by
 obtain⟨A,hA⟩:=Ar.ex;obtain⟨x,y,wb,z,wc,d,g,o1,o2,e1,o,s,w,u⟩:=q.out;have i:A .az .lss n 0=decide (n<0):=aJ A ..;have f:A .az .geq n (A .nat D.now.length)=decide (n>=D.now.length):=by rw[cZ A,hA.nat];rfl
 have j:A .az .gtr size 64=decide (size>64):=aO A ..;have P:dL D n size=if D.dead then 15 else if n<0\/n>=D.now.length\/size>64 then 1 else 0:=rfl
 generalize dL D n size=r at *;generalize v:D.now.length=m at *;generalize l:D.dead=t at *;refine dH cJv A Tryz.func195 ?_;cbv;rw[ao A];refine aQl q ?_;rw[l];cbv;cases t with
 |true=>have P:r=15:=P;subst P;cbv;exact a
 |false=>
  have P:r=if n<0\/n>=(m:Int)\/size>64 then 1 else 0:=P
  by_cases c:n<0
  .rw[if_pos (.inl c)]at P;subst P;cbv;rw[i,aH c];cbv;exact a
  by_cases b:n>=(m:Int)
  .rw[if_pos (.inr (.inl b))]at P;subst P;rw[aH b]at f;cbv;rw[i,ag c];cbv;rw[ao A];refine bc g ?_;cbv;rw[f];cbv;exact a
  rw[ag b]at f;by_cases e:size>64
  .rw[if_pos (.inr (.inr e))]at P;subst P;cbv;rw[i,ag c];cbv;rw[ao A];refine bc g ?_;cbv;rw[f];cbv;rw[j,aH e];cbv;exact a
  rw[if_neg (λh=>h.elim c (λh=>h.elim b e))]at P;subst P;cbv;rw[i,ag c];cbv;rw[ao A];refine bc g ?_;cbv;rw[f];cbv;rw[j,ag e];cbv;exact a
theorem cM.elem{A:Ar}[hA:aV A]{e a cap:Nat}{xs:List Bs}(o:cM e iC h a cap xs){b:Bs}(hx:xs[i]? =some b)(v:n=(i:Int)):Sl e bS h (.slice (some (A .fM (some ⟨a,0,none⟩) n 64)) 64 64) b:=by
 obtain⟨c,g,r,w⟩:=o.out;have s:=r.2 i b hx;obtain⟨d,f⟩:=s;have t:A .fM (some ⟨a,0,none⟩) n 64=⟨a,i*64,none⟩:=by have:A .fM=Sx.fM:=hA.fM;rw[this,v];simp[fM,bL]
 rw[t];have k:=r.1;have u:i<xs.length:=(dB.1 hx).1;have p:i*64+64<=c.length:=by have:(i+1)*64<=xs.length*64:=xt _ u;have k:0+xs.length*64<=c.length:=k;omega
 refine⟨_,64,by rw[f],by rw[f];exact mr _,by rw[f];omega,.inr ⟨a,i*64,_,_,rfl,g,?_,λj x l=>?_⟩⟩
 .show i*64+b.length*1<=c.length;omega
 have R:j<64:=by have:=(dB.1 l).1;omega
 show((c.drop (i*64+j*1)).take 1)=_;have d:(c.drop (0+i*64)).take 64=aA b:=d;rw[qp]at d;apply rv;intro m;rw[hU,nM];by_cases q:m<1
 .have J:m=0:=by omega
  subst J;rw[if_pos q];have:=congrArg (λz=>z[j]?) d;simp only[hU,nM,if_pos R,aA,qy,l,Option.map_some]at this;rw[show i*64+j*1+0=i*64+j by omega,this];rfl
 rw[if_neg q];rw[qk (by simp;omega)]
def bQ(D:Dk)(n:Int):Bs:=(D.now[n.toNat]?).getD []
theorem LH{D:Dk}(q:kf h p D)(n:Int)
 (z:dL D n 0≠0->k (.tuple #[.slice none 0 0,.int .i64 (dL D n 0)]) h)
 (j:dL D n 0=0->∀h' b c,Le h h'->(bQ D n).length=64->aT 5 bS h h' (.slice b 64 c) (bQ D n)->k (.tuple #[.slice b 64 c,.int .i64 0]) h'):
 Ct 104 [.pointer (some ⟨p,0,none⟩),.int .i64 n] h k:=by
 obtain⟨A,hA⟩:=Ar.ex;obtain⟨J,u,wb,K,wc,d,g,o1,o2,e1,G,H,w,I⟩:=q.out;have B:A .az .neq (dL D n 0) 0=decide (dL D n 0≠0):=av A ..;have f:dL D n 0=0->aM n n.toNat/\n.toNat<D.now.length:=λa=>by
  unfold dL at a;split at a
  .cases a
  split at a
  .cases a
  rename_i t;have e:¬n<0:=λg=>t (.inl g);have s:¬n>=(D.now.length:Int):=λg=>t (.inr (.inl g));exact⟨⟨by omega⟩,by omega⟩
 have Q:dL D n 0=0->Sl 135 bS h (.slice (some (A .fM (some ⟨u,0,none⟩) n 64)) 64 64) (bQ D n):=λa=>by
  obtain⟨e,s⟩:=f a;obtain⟨x,hx⟩:=ay (xs:=D.now) (i:=n.toNat) s;have:bQ D n=x:=by unfold bQ;rw[hx];rfl
  rw[this];exact cM.elem o2 hx e.eq
 have l:dL D n 0=0->True/\0<=n/\n<(D.now.length:Int):=λa=>⟨trivial,(f a).1.ix (f a).2⟩;have l:dL D n 0=0->(some (⟨u,0,none⟩:Addr)).isSome=true/\0<=n/\n<(D.now.length:Int):=λa=>⟨rfl,(l a).2⟩;clear f;generalize D.now.length=m at *;refine dH cKM A Tryz.func104 ?_;cbv;refine Hr q n 0 ?_;generalize dL D n 0=r at *;cbv;rw[B];by_cases o:r≠0
 .rw[aH o];have C:=z o;cbv;exact C
 have V:r=0:=by omega
 have Q:=Q V;have j:=j V;generalize bQ D n=b at *;rw[ag o];cbv;rw[ao A];refine bc g ?_;cbv;refine⟨l V,?_⟩;cbv;refine Be Q (λe v y E F=>?_);have:=j e v y E Q.len.symm F;cbv;exact this
abbrev W:=BitVec 32
structure iK(z:Int)(x:W):Prop where
 eq:z=(x.toNat:Int)
section
variable {A:Ar}[hA:aV A]{z w:Int}{x y:W}
theorem tI(n:Int):IntKind.u32.wrap n=n % 4294967296:=by simp[IntKind.wrap,IntKind.bits,IntKind.signed]
theorem oJ(x:W):BitVec.ofInt 32 (x.toNat:Int)=x:=by apply BitVec.eq_of_toNat_eq;rw[BitVec.toNat_ofInt];have:=x.isLt;omega
theorem Ki(x:W):((x.toNat:Int)) % 4294967296=x.toNat:=by have:=x.isLt;omega
theorem iK.add(h:iK z x)(g:iK w y):iK (A .aC .add .u32 z w) (x+y):=⟨by
 rw[hA.aC,h.eq,g.eq];show IntKind.u32.wrap _=_;rw[tI,BitVec.toNat_add];omega⟩
theorem iK.xor(h:iK z x)(g:iK w y):iK (A .aC .xor .u32 z w) (x^^^y):=⟨by
 rw[hA.aC,h.eq,g.eq];show IntKind.u32.wrap (((BitVec.ofInt 32 (x.toNat:Int)^^^BitVec.ofInt 32 (y.toNat:Int)).toNat:Nat):Int)=_;rw[oJ,oJ,tI,Ki]⟩
theorem iK.and(h:iK z x)(g:iK w y):iK (A .aC .and .u32 z w) (x&&& y):=⟨by
 rw[hA.aC,h.eq,g.eq];show IntKind.u32.wrap (((BitVec.ofInt 32 (x.toNat:Int)&&& BitVec.ofInt 32 (y.toNat:Int)).toNat:Nat):Int)=_;rw[oJ,oJ,tI,Ki]⟩
theorem iK.or(h:iK z x)(g:iK w y):iK (A .aC .or .u32 z w) (x|||y):=⟨by
 rw[hA.aC,h.eq,g.eq];show IntKind.u32.wrap (((BitVec.ofInt 32 (x.toNat:Int)|||BitVec.ofInt 32 (y.toNat:Int)).toNat:Nat):Int)=_;rw[oJ,oJ,tI,Ki]⟩
theorem iK.not(h:iK z x):iK (A .aC .xor .u32 4294967295 z) (~~~x):=⟨by
 rw[hA.aC,h.eq];show IntKind.u32.wrap (((BitVec.ofInt 32 (4294967295:Int)^^^BitVec.ofInt 32 (x.toNat:Int)).toNat:Nat):Int)=_;rw[oJ,tI,Ki];have:BitVec.ofInt 32 (4294967295:Int)=BitVec.allOnes 32:=by decide
 rw[this,BitVec.allOnes_xor]⟩
theorem iK.shr(h:iK z x)(a:aM n i)(b:i<32):iK (A .aC .shr .u32 z n) (x >>> i):=⟨by
 rw[hA.aC,h.eq,a.eq];show((x.toNat:Int)).fdiv (2^(min ((i:Int)).toNat 32))=_;rw[show min ((i:Int)).toNat 32=i by omega,hJU _ (Int.le_of_lt (Int.pow_pos (by decide))),BitVec.toNat_ushiftRight,Nat.shiftRight_eq_div_pow];norm_cast⟩
theorem iK.shl(h:iK z x)(a:aM n i)(b:i<=32):iK (A .aC .shl .u32 z n) (x <<< i):=⟨by
 rw[hA.aC,h.eq,a.eq];show IntKind.u32.wrap ((x.toNat:Int)*2^(min ((i:Int)).toNat 32))=_;rw[show min ((i:Int)).toNat 32=i by omega,tI,BitVec.toNat_shiftLeft,Nat.shiftLeft_eq];have:(x.toNat:Int)*2^i=((x.toNat*2^i:Nat):Int):=by push_cast;rfl
 rw[this];omega⟩
theorem iK.YM{v:Int}{b:UInt8}(h:v=(b.toNat:Int)):iK (A .conv .u32 v) (BitVec.ofNat 32 b.toNat):=⟨by
 rw[hA.conv,h];show IntKind.u32.wrap _=_;have:=b.toNat_lt;rw[tI,BitVec.toNat_ofNat];omega⟩
end
def mA:Sh W where
 n:=1
 R _ cs x:=∃z,cs=[.int .u32 z]/\iK z x
 len:=by rintro h cs x ⟨z,rfl,-⟩;rfl
 one:=by rintro h cs x ⟨z,rfl,-⟩;rfl
 tys:=[]
 mono:=λ_ q=>q
def rr(x:W)(n:Nat):W:=x >>> n|||x <<< (32-n)
def eQh(x:W):W:=rr x 7^^^rr x 18^^^x >>> 3
def eQg(x:W):W:=rr x 17^^^rr x 19^^^x >>> 10
def gXF(x:W):W:=rr x 6^^^rr x 11^^^rr x 25
def gXG(x:W):W:=rr x 2^^^rr x 13^^^rr x 22
def hXc(e f g:W):W:=(e&&& f)^^^(~~~e&&& g)
def eXj(a b c:W):W:=(a&&& b)^^^(a&&& c)^^^(b&&& c)
def bw(b:Bs)(i:Nat):W:=BitVec.ofNat 32 (b.getD i 0).toNat
def OF(b:Bs)(i:Nat):W:=bw b (4*i) <<< 24|||bw b (4*i+1) <<< 16|||bw b (4*i+2) <<< 8|||bw b (4*i+3)
def wF(b:Bs)(i:Nat):W:=
 if i<16 then OF b i else if 16<=i then wF b (i-16)+eQh (wF b (i-15))+wF b (i-7)+eQg (wF b (i-2))else 0
 termination_by i
 decreasing_by all_goals omega
def BJ:List W:=[0x428a2f98#32,0x71374491#32,0xb5c0fbcf#32,0xe9b5dba5#32,0x3956c25b#32,0x59f111f1#32,0x923f82a4#32,0xab1c5ed5#32,
 0xd807aa98#32,0x12835b01#32,0x243185be#32,0x550c7dc3#32,0x72be5d74#32,0x80deb1fe#32,0x9bdc06a7#32,0xc19bf174#32,
 0xe49b69c1#32,0xefbe4786#32,0x0fc19dc6#32,0x240ca1cc#32,0x2de92c6f#32,0x4a7484aa#32,0x5cb0a9dc#32,0x76f988da#32,
 0x983e5152#32,0xa831c66d#32,0xb00327c8#32,0xbf597fc7#32,0xc6e00bf3#32,0xd5a79147#32,0x06ca6351#32,0x14292967#32,
 0x27b70a85#32,0x2e1b2138#32,0x4d2c6dfc#32,0x53380d13#32,0x650a7354#32,0x766a0abb#32,0x81c2c92e#32,0x92722c85#32,
 0xa2bfe8a1#32,0xa81a664b#32,0xc24b8b70#32,0xc76c51a3#32,0xd192e819#32,0xd6990624#32,0xf40e3585#32,0x106aa070#32,
 0x19a4c116#32,0x1e376c08#32,0x2748774c#32,0x34b0bcb5#32,0x391c0cb3#32,0x4ed8aa4a#32,0x5b9cca4f#32,0x682e6ff3#32,
 0x748f82ee#32,0x78a5636f#32,0x84c87814#32,0x8cc70208#32,0x90befffa#32,0xa4506ceb#32,0xbef9a3f7#32,0xc67178f2#32]
structure W8 where
 a:W
 b:W
 c:W
 d:W
 e:W
 f:W
 g:W
 h:W
def W8.l(t:W8):List W:=[t.a,t.b,t.c,t.d,t.e,t.f,t.g,t.h]
def jl:W8:=⟨0x6a09e667#32,0xbb67ae85#32,0x3c6ef372#32,0xa54ff53a#32,0x510e527f#32,0x9b05688c#32,0x1f83d9ab#32,0x5be0cd19#32⟩
def bXW(t:W8)(k w:W):W:=t.h+gXF t.e+hXc t.e t.f t.g+k+w
def eQl(t:W8):W:=gXG t.a+eXj t.a t.b t.c
def aXb(t:W8)(k w:W):W8:=⟨bXW t k w+eQl t,t.a,t.b,t.c,t.d+bXW t k w,t.e,t.f,t.g⟩
def tg(b:Bs)(t:W8):Nat->W8
 |0=>t
 |i+1=>aXb (tg b t i) (BJ.getD i 0) (wF b i)
def W8.add(t s:W8):W8:=⟨t.a+s.a,t.b+s.b,t.c+s.c,t.d+s.d,t.e+s.e,t.f+s.f,t.g+s.g,t.h+s.h⟩
def BY(s:W8)(b:Bs):W8:=(tg b s 64).add s
def ki(n:Nat):Nat:=(119-n % 64) % 64
def Hx(n:Nat):Bs:=(List.range 8).map λi=>u8 ((n*8 % 2^64 / 2^(56-8*i):Nat):Int)
def Af(b:Bs):Bs:=b++[128]++List.replicate (ki b.length) 0++Hx b.length
def gQ(s:W8)(b:Bs):W8:=if h:64<=b.length then gQ (BY s (b.take 64)) (b.drop 64)else s
 termination_by b.length
 decreasing_by simp only[ec];omega
def wB(w:W)(i:Nat):UInt8:=u8 ((w >>> (24-8*i)).toNat:Int)
def My(s:W8):Bs:=s.l.flatMap λw=>(List.range 4).map (wB w)
def Mg(b:Bs):Bs:=My (gQ jl (Af b))
theorem qQ(s:W8):(My s).length=32:=rfl
theorem iW(b:Bs):(Mg b).length=32:=qQ _
def vr(b:Bs):Bs:=Mg (0::b)
def uE(a b:Bs):Bs:=Mg (1::(a++b))
def xC(k n:Nat):Nat:=if h:2*k<n/\0<k then xC (2*k) n else k
 termination_by n-k
 decreasing_by omega
def vL(n:Nat):Nat:=xC 1 n
theorem LA(k n:Nat)(hk:0<k)(hn:k<n):xC k n<n/\0<xC k n:=by
 unfold xC;split
 .rename_i h;exact LA (2*k) n (by omega) h.1
 .exact⟨hn,hk⟩
 termination_by n-k
theorem yW{n:Nat}(h:2<=n):vL n<n/\0<vL n:=LA 1 n (by omega) (by omega)
def eO(l:List Bs):Bs:=
 match l with
 | []=>Mg []
 | [x]=>x
 |x::y::r=>uE (eO ((x::y::r).take (vL (r.length+2)))) (eO ((x::y::r).drop (vL (r.length+2))))
 termination_by l.length
 decreasing_by
 .have:=yW (n:=r.length+2) (by omega);simp only[dW,hJB];omega
 have:=yW (n:=r.length+2) (by omega);simp only[ec,hJB];omega
def nF(s:ByteArray):Bs:=py s++ku s
def jE(v:gI):Bs:=u8 v.k::(if v.k=1 then [u8 v.n]else if v.k=2 then cC v.n else if v.k=3 then nF v.s else [])
def sN(r:Row):Bs:=u8 (r.length:Int)::r.flatMap jE
def Nx(id:Int)(seq:Nat)(c:cW):Bs:=cC id++cC (seq:Int)++[u8 c.op]++nF c.table++nF (strOf (sN c.row))
def dy(id:Int)(seq:Nat)(c:cW):Bs:=vr (Nx id seq c)
def dg(id:Int)(l:List cW):List Bs:=l.mapIdx (dy id)
def fN(id:Int)(l:List cW):Bs:=eO (dg id l)
def eF(id:Int)(l:List cW):Bs:=vr (cC id++cC (l.length:Int)++fN id l)
structure Kf where
 n:Int
 prev:Bs
 root:Bs
 count:Int
def SB(b:Kf):Bs:=cC b.n++b.prev++b.root++cC b.count
def eK(b:Kf):Bs:=Mg (SB b)
end Go.S
