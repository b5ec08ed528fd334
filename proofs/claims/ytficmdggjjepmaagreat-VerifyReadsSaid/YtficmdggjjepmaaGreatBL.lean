import Derived.Test.YtficmdggjjepmaaGreatBK
set_option linter.all false
set_option maxRecDepth 100000
set_option maxHeartbeats 8000000
namespace Go.S
open Go.Sx Go.Proofs
variable {only:Bool}{nm:ByteArray}{d:DB}{id n z:Int}{G o rows s u:List Bs}{f fo:List Fd}{R:List Row}{L:List cW}{c i:Nat}{b:Option Addr}{r:Row}{V:VS}{k:Value->ab->Prop}{kv:gI}
theorem aKI{P:List gY}{key:Int}{h:ab}{F:Option Addr}{L H n:Nat}(q:Sl 88 aU h (.slice b n c) R)(hR:rN P key R)(W:OB kv)
 (l:∀z,aM z (bK key R kv)->k (.int .i64 z) h):Ct 340 [.agg #[.string nm,.slice F L H,.int .i64 key,.bool only,.slice b n c],.agg #[.int .i64 kv.k,.int .i64 kv.n,.string kv.s]] h k:=by
 have y:=q.len;have iD:=q.bound;have dq:=hR.k0;obtain⟨f,g,s⟩:=kv;refine cp XF Tryz.func340 λA hA=>?_;cbv;refine aK.go (G:=Int) (λz=>[(5,.v (.int .i64 z))]) (λ_=>[(2,[.string nm,.slice F L H,.int .i64 key,.bool only,.slice b n c]),(3,[.int .i64 f,.int .i64 g,.string s])]) (λm z h'=>∃i:Nat,aM z i/\m=n-i/\i<=n/\h'=h/\∀j o,j<i->R[j]? =some o->bY (keyOf key o) ⟨f,g,s⟩<0) n 0 (by constructor<;>cbv) ⟨0,⟨rfl⟩,by omega,by omega,rfl,λj o d=>absurd d (by omega)⟩ ?_
 intro m z h' hI;cbv;obtain⟨i,e,hm,hi,rfl,t⟩:=hI;have Y:A .az .lss z (A .nat n)=decide (i<n):=e.pL (aM.nat n);rw[Y];by_cases I:i<n
 .obtain⟨o,K⟩:=di R i;obtain⟨v,pV,V,N⟩:=hR.key (kF K);have Z:=OB.of N;have tV:=(ru (hR.fit o (kF K))).1;have Q:key.toNat<o.length:=by have:=hR.k1;omega
  have U:b.isSome=true/\0<=z/\z<(n:Int):=⟨q.aR,e.ix I⟩;have S:=e.eq;have fW:=e.succ (A:=A);have f2:∀c,A .az .lss c 0=decide (c<0):=λc=>aJ A ..;obtain⟨vk,vn,vs⟩:=v;rw[aH I];cbv;refine⟨U,?_⟩;cbv;refine q.load K S (λcs u=>?_);obtain⟨T,rfl,x⟩:=u;obtain⟨r1,E,r3,rfl⟩:=x.form;have Ji:E=o.length:=x.len;have xp:r1.isSome=true/\0<=key/\key<(E:Int):=⟨x.aR,by omega,by omega⟩;cbv;refine⟨xp,?_⟩;cbv;refine x.load pV (n:=key) (by omega) (λcs u=>?_);have u:cs=[.int .i64 vk,.int .i64 vn,.string vs]:=u;subst u;cbv;refine Hn Z W (λz2 B=>?_);have X:decide (z2<0)=decide (bY (keyOf key o) ⟨f,g,s⟩<0):=by rw[B,V]
  clear B;cbv;rw[f2,X];by_cases J:bY (keyOf key o) ⟨f,g,s⟩<0
  .rw[aH J];cbv;refine⟨n-(i+1),_,by omega,by constructor<;>cbv,i+1,fW,rfl,by omega,rfl,λj M d O=>?_⟩
   .rcases ss j i with C|C
    .exact t j M C O
    have:j=i:=by omega
    subst this;rw[K]at O;cases O;exact J
  have w:=zY (key:=key) (R:=R) (kv:=⟨f,g,s⟩) (p:=i) (by omega) (λj r d a=>t j r d a) (λr a=>by rw[K]at a;cases a;exact J);rw[<-w]at l;have D:=l z e;rw[ag J];cbv;exact D
 have w:=zY (key:=key) (R:=R) (kv:=⟨f,g,s⟩) (p:=i) (by omega) (λj r d a=>t j r d a) (λr a=>by have:=(dB.1 a).1;omega);rw[<-w]at l;have D:=l z e;rw[ag I];cbv;exact D
theorem aQg{W:List gY}{key:Int}{h:ab}{sb:Option Addr}{sn sc n:Nat}(q:Sl 88 aU h (.slice b n c) R)(hR:rN W key R)(M:OB kv)
 (d:∀h' g n' c' t,Le h h'->t=iN key R kv->(t=true->Sl 87 aZ h' (.slice g n' c') ((R[bK key R kv]?).getD []))->k (.tuple #[.slice g n' c',.bool t]) h'):
 Ct 339 [.agg #[.string nm,.slice sb sn sc,.int .i64 key,.bool only,.slice b n c],.agg #[.int .i64 kv.k,.int .i64 kv.n,.string kv.s]] h k:=by
 have y:=q.len;have iD:=q.bound;have dq:=hR.k0;have MO:=(uU (key:=key) (R:=R) (kv:=kv)).1;have H:iN key R kv=match R[bK key R kv]? with
  |some r=>decide (bY (keyOf key r) kv=0)
  |none=>false:=rfl
 obtain⟨e,f,s⟩:=kv;refine cp XG Tryz.func339 λA hA=>?_;cbv;refine aKI q hR M (λz l=>?_);generalize bK key R ⟨e,f,s⟩=p at *;have f1:A .az .eql z (A .nat n)=decide (p=n):=by have:=l.eq;rw[aq A,hA.nat,decide_eq_decide];simp only[kH];omega
 cbv;rw[f1];by_cases B:p=n
 .rw[qk (by omega)]at H;have D:=d h none 0 0 false (Le.refl _) H.symm (λh=>by cases h);rw[aH B];cbv;exact D
 obtain⟨o,K⟩:=di R p;rw[K]at H d;obtain⟨v,pV,V,P⟩:=hR.key (kF K);have Z:=OB.of P;have tV:=(ru (hR.fit o (kF K))).1;have Q:key.toNat<o.length:=by have:=hR.k1;omega
 have u:b.isSome=true/\0<=z/\z<(n:Int):=⟨q.aR,l.ix (by omega)⟩;have m:=l.eq;have f2:∀c,A .az .neq c 0=decide (c≠0):=λc=>av A ..;have d:∀h' g n' c' t,Le h h'->t=iN key R ⟨e,f,s⟩->(t=true->Sl 87 aZ h' (.slice g n' c') o)->k (.tuple #[.slice g n' c',.bool t]) h':=d;have H:iN key R ⟨e,f,s⟩=decide (bY (keyOf key o) ⟨e,f,s⟩=0):=H;obtain⟨L,N,O⟩:=v;rw[V]at H;rw[ag B];cbv;refine⟨u,?_⟩;cbv;refine q.load K m (λcs a=>?_);obtain⟨Y,rfl,x⟩:=a;obtain⟨r1,F,r3,rfl⟩:=x.form;have Ji:F=o.length:=x.len;have xp:r1.isSome=true/\0<=key/\key<(F:Int):=⟨x.aR,by omega,by omega⟩;cbv;refine⟨xp,?_⟩;cbv;refine x.load pV (n:=key) (by omega) (λcs a=>?_);have a:cs=[.int .i64 L,.int .i64 N,.string O]:=a;subst a;cbv;refine Hn Z M (λz2 E=>?_);have G:decide (z2≠0)= !(decide (bY ⟨L,N,O⟩ ⟨e,f,s⟩=0)):=by rw[<-E];simp
 rw[<-H]at G;clear E H;generalize iN key R ⟨e,f,s⟩=T at *;cbv;rw[f2,G];cases T with
 |true=>
  cbv;intro n6 w g6 X;have C:Le h w:=by rw[X];exact Le.set g6
  have q6:=q.mono (C.t _);cbv;refine⟨u,?_⟩;cbv;refine q6.load K m (λcs a=>?_);obtain⟨ai,rfl,i⟩:=a;obtain⟨u1,I,u3,rfl⟩:=i.form;have VT:I=o.length:=i.len;have lR:aT 87 aZ h w (.slice (some ⟨n6,0,none⟩) 0 0) ([]:Row):=aT.nil;have j:0+I<=2^39:=by have:=hR.cl;omega
  cbv;refine lR.append i (by decide) rfl (by decide) j C (λm7 S U h7 RV l7 t7 k7 lH=>?_);have J:=lH.sl;rw[hJG]at J;have D:=d h7 S m7 U true l7 rfl (λ_=>J);cbv;exact D
 |false=>have D:=d h none 0 0 false (Le.refl _) rfl (λh=>by cases h);cbv;exact D
theorem cKY{a:List gY}{key:Int}{h:ab}{B b2:Option Addr}{F C n n2 c2:Nat}(qs:Sl 58 bt h (.slice B F C) a)(q:Sl 88 aU h (.slice b n c) R)(hR:rN a key R)(m:Sl 87 aZ h (.slice b2 n2 c2) r)
 {D:bM×Int} (hD:bq ⟨⟨nm,a,key,only⟩,R⟩ r=D) 
 (d:∀h' b3 n3 c3,Le h h'->Sl 88 aU h' (.slice b3 n3 c3) D.1.rows->k (.tuple #[.agg #[.string nm,.slice B F C,.int .i64 key,.bool only,.slice b3 n3 c3],.int .i64 D.2]) h'):
 Ct 292 [.agg #[.string nm,.slice B F C,.int .i64 key,.bool only,.slice b n c],.slice b2 n2 c2] h k:=by
 obtain⟨A,hA⟩:=Ar.ex;have o:=q.len;have iD:=q.bound;have aj:=hR.le;have dq:=hR.k0;have de:key.toNat<a.length:=by have:=hR.k1;omega
 have CW:=hR.cl;have tV:=m.len;have f8:A .az .geq (A .nat n) 200=decide ((R.length:Int)>=200):=by rw[cZ A,hA.nat,o];rfl
 have T:=FK (t:=⟨⟨nm,a,key,only⟩,R⟩) hR r;rw[hD]at T;have T:D=if cS a r≠0 then(⟨⟨nm,a,key,only⟩,R⟩,cS a r)else if iN key R (keyOf key r)=true then(⟨⟨nm,a,key,only⟩,R⟩,7)else if(R.length:Int)>=200 then(⟨⟨nm,a,key,only⟩,R⟩,4)else(⟨⟨nm,a,key,only⟩,R.take (bK key R (keyOf key r))++[r]++R.drop (bK key R (keyOf key r))⟩,0):=T
 have Q:=λe:cS a r=0=>ru e;have kj:=uU (key:=key) (R:=R) (kv:=keyOf key r);have MO:=kj.1;clear hD kj;obtain⟨E,O⟩:∃E,E=cS a r:=⟨_,rfl⟩;rw[<-O]at T Q;have f1:A .az .neq E 0=decide (E≠0):=av A ..;refine dH NK A Tryz.func292 ?_;cbv;refine aKH qs m ?_;rw[<-O];clear O;cbv;rw[f1];by_cases g:E≠0
 .rw[if_pos g]at T;rw[T]at d;have f:=d h b n c (Le.refl _) q;rw[aH g];clear T d;cbv;exact f
 rw[if_neg g]at T;have g:=se.1 g;obtain⟨Zl,Ji⟩:=Q g;rw[ag (by simp[g])];obtain⟨v,pV,MV,J⟩:=Ej (r:=r) dq (by omega);have Zd:=OB.of (Ji v J);rw[MV]at T MO;have xp:b2.isSome=true/\0<=key/\key<(n2:Int):=⟨m.aR,by omega,by omega⟩;have W:key=(key.toNat:Int):=by omega
 obtain⟨i,j,l⟩:=v;have iR:0<n2:=by omega
 clear Q Ji J MV;cbv;refine⟨xp,?_⟩;cbv;refine m.load pV (n:=key) W (λcs u=>?_);have u:cs=[.int .i64 i,.int .i64 j,.string l]:=u;subst u;cbv;refine aQg q hR Zd (λy b' n' c' t w ht _=>?_);rw[<-ht]at T;clear ht;have x:=q.mono (w.t _);have Y:=m.mono (w.t _);cases t with
 |true=>have T:D=(⟨⟨nm,a,key,only⟩,R⟩,7):=T;rw[T]at d;have f:=d y b n c w x;clear T d;cbv;exact f
 |false=>
  have T:D=if(R.length:Int)>=200 then(⟨⟨nm,a,key,only⟩,R⟩,4)else(⟨⟨nm,a,key,only⟩,R.take (bK key R ⟨i,j,l⟩)++[r]++R.drop (bK key R ⟨i,j,l⟩)⟩,0):=T
  cbv;rw[f8];by_cases hl:(R.length:Int)>=200
  .rw[if_pos hl]at T;rw[T]at d;have f:=d y b n c w x;rw[aH hl];clear T d;cbv;exact f
  rw[if_neg hl]at T;rw[T]at d;rw[ag hl];have d:∀h' b3 n3 c3,Le h h'->Sl 88 aU h' (.slice b3 n3 c3) (R.take (bK key R ⟨i,j,l⟩)++[r]++R.drop (bK key R ⟨i,j,l⟩))->k (.tuple #[.agg #[.string nm,.slice B F C,.int .i64 key,.bool only,.slice b3 n3 c3],.int .i64 0]) h':=d;clear T;cbv;refine⟨xp,?_⟩;cbv;refine Y.load pV (n:=key) W (λcs u=>?_);have u:cs=[.int .i64 i,.int .i64 j,.string l]:=u;subst u;cbv;refine aKI x hR Zd (λz p=>?_);generalize bK key R ⟨i,j,l⟩=P at *;have S:A .mW z 0=P:=cQ (A:=A) p;have ud:=bZ (A:=A) p (n:=n);obtain⟨Jt,Js⟩:=iD;have eW:0<=z/\z<=(c:Int):=by have:=p.eq;omega
  have lG:0<=z/\z<=(n:Int):=by have:=p.eq;omega
  have V:P<=n:=by omega
  cbv;intro n6 h6 g6 e6;have l6:Le y h6:=by rw[e6];exact Le.set g6
  have q6:=x.mono (l6.t _);have lR:aT 88 aU y h6 (.slice (some ⟨n6,0,none⟩) 0 0) ([]:List Row):=aT.nil;cbv;refine⟨eW,?_⟩;cbv;refine lR.append (q6.qu (A:=A) (s:=aU) (z:=A .nat c) V S S) (by decide) rfl (by decide) (by rw[S];omega) l6 (λm7 b7 c7 h7 RV l7 t7 k7 lH=>?_);rw[hJG]at lH;cbv;intro n8 h8 g8 e8;have l8:Le h7 h8:=by rw[e8];exact Le.set g8
  have I:=Y.mono ((l7.trans l8).t _);cbv;refine fj I (by decide) rfl (by decide) (λh0=>absurd h0 (by omega)) (λn9 c9 h9 BQ _ l9 Z=>?_);have M:Sl 87 aZ h9 (.slice (some ⟨n9,0,none⟩) n2 c9) r:=Z.sl m.len;cbv;intro X lI L sV;have pM:Le h9 lI:=by rw[sV];exact Le.set L
  have N:=(congrFun sV X).trans ae;have U:Sl 88 aU lI (.slice (some ⟨X,0,none⟩) 1 1) [r]:=bC (s:=aU) N ⟨_,rfl,M.mono (pM.t _)⟩;have Qn:=(l8.trans l9).trans pM;cbv;refine(lH.mono (Qn.t _)).append U (by decide) rfl (by decide) (by omega) (l7.trans Qn) (λan aI aw yD ak oG aP YW ng=>?_);have pK:=x.mono (oG.t _);cbv;refine⟨lG,?_⟩;cbv;refine ng.append (pK.gT (A:=A) (s:=aU) p V ud (c':=c-P) rfl) (by decide) rfl (by decide) (by rw[ud];omega) oG (λH G K kD ai fO aX YV Jx=>?_);have f:=d kD G H K (w.trans fO) Jx.sl;cbv;exact f
theorem aKC{W:List gY}{key:Int}{h:ab}{v:Option Addr}{y x n:Nat}(q:Sl 88 aU h (.slice b n c) R)(hR:rN W key R)(M:OB kv)
 {D:bM×Row×Int} (F:aS ⟨⟨nm,W,key,only⟩,R⟩ kv=D) 
 (g:∀h' b3 n3 c3 b4 n4 c4,Le h h'->Sl 88 aU h' (.slice b3 n3 c3) D.1.rows->Sl 87 aZ h' (.slice b4 n4 c4) D.2.1->k (.tuple #[.agg #[.string nm,.slice v y x,.int .i64 key,.bool only,.slice b3 n3 c3],.slice b4 n4 c4,.int .i64 D.2.2]) h'):
 Ct 293 [.agg #[.string nm,.slice v y x,.int .i64 key,.bool only,.slice b n c],.agg #[.int .i64 kv.k,.int .i64 kv.n,.string kv.s]] h k:=by
 obtain⟨A,E⟩:=Ar.ex;have eI:A .not true=false:=by rw[E.not];rfl
 have lY:A .not false=true:=by rw[E.not];rfl
 have G:=q.len;have iD:=q.bound;have ai:=hR.le;have T:=Cr (t:=⟨⟨nm,W,key,only⟩,R⟩) hR kv;rw[F]at T;have T:D=if iN key R kv=true then(⟨⟨nm,W,key,only⟩,R.take (bK key R kv)++R.drop (bK key R kv+1)⟩,(R[bK key R kv]?).getD [],0)else(⟨⟨nm,W,key,only⟩,R⟩,[],2):=T
 have V:iN key R kv=true->bK key R kv<R.length:=λe=>by
  unfold iN at e;cases H:R[bK key R kv]? with
  |none=>rw[H]at e;cases e
  |some w=>exact(dB.1 H).1
 clear F;obtain⟨a,d,f⟩:=kv;refine dH XH A Tryz.func293 ?_;cbv;refine aQg q hR M (λm b' n' c' t u J I=>?_);rw[<-J]at T V;clear J;have i:=q.mono (u.t _);cbv;cases t with
 |false=>have T:D=(⟨⟨nm,W,key,only⟩,R⟩,[],2):=T;rw[T]at g;have j:=g m b n c none 0 0 u i Sl.nil;rw[lY];clear T g;cbv;exact j
 |true=>
  have T:D=(⟨⟨nm,W,key,only⟩,R.take (bK key R ⟨a,d,f⟩)++R.drop (bK key R ⟨a,d,f⟩+1)⟩,(R[bK key R ⟨a,d,f⟩]?).getD [],0):=T;rw[T]at g;have V:=V rfl;have I:=I rfl;have g:∀h' b3 n3 c3 b4 n4 c4,Le h h'->Sl 88 aU h' (.slice b3 n3 c3) (R.take (bK key R ⟨a,d,f⟩)++R.drop (bK key R ⟨a,d,f⟩+1))->Sl 87 aZ h' (.slice b4 n4 c4) ((R[bK key R ⟨a,d,f⟩]?).getD [])->k (.tuple #[.agg #[.string nm,.slice v y x,.int .i64 key,.bool only,.slice b3 n3 c3],.slice b4 n4 c4,.int .i64 0]) h':=g;clear T;generalize (R[bK key R ⟨a,d,f⟩]?).getD []=w at *;rw[eI];cbv;refine aKI i hR M (λz o=>?_);generalize bK key R ⟨a,d,f⟩=p at *;have l:=o.succ (A:=A);have B:A .mW z 0=p:=cQ (A:=A) o;have Q:=bZ (A:=A) l (n:=n);obtain⟨Jt,Js⟩:=iD;have eW:0<=z/\z<=(c:Int):=by have:=o.eq;omega
  have lG:0<=A .aC .add .i64 z 1/\A .aC .add .i64 z 1<=(n:Int):=by have:=l.eq;omega
  have S:p<=n:=by omega
  have Z:p+1<=n:=by omega
  cbv;intro n6 C g6 e6;have L:Le m C:=by rw[e6];exact Le.set g6
  have q6:=i.mono (L.t _);have lR:aT 88 aU m C (.slice (some ⟨n6,0,none⟩) 0 0) ([]:List Row):=aT.nil;cbv;refine⟨eW,?_⟩;cbv;refine lR.append (q6.qu (A:=A) (s:=aU) (z:=A .nat c) S B B) (by decide) rfl (by decide) (by rw[B];omega) L (λm7 b7 c7 h7 RV N t7 k7 P=>?_);rw[hJG]at P;have q7:=i.mono (N.t _);cbv;refine⟨lG,?_⟩;cbv;refine P.append (q7.gT (A:=A) (s:=aU) l Z Q (c':=c-(p+1)) rfl) (by decide) rfl (by decide) (by rw[Q];omega) N (λX r K kD Y O aj YV U=>?_);have j:=g kD r X K b' n' c' (u.trans O) U.sl (I.mono (O.t _));cbv;exact j
set_option maxHeartbeats 1000000
variable {h0 h gL h':ab}{p mp:Nat}{od ol os:Int}{fb:Option Addr}{fm fc:Nat}{b1 b2 b3 b4 b5 b6:Option Addr}{n1 c1 n2 c2 n3 c3 n4 c4 n5 c5 n6 c6:Nat}{bl:List Kf}
theorem jb.al{d':DB}{b:List Bs}{l E D w:Option Addr}{U y o a t A R:Nat}(q:jb h0 h p mp od ol os fb fm fc b1 n1 c1 b2 n2 c2 b3 n3 c3 b4 n4 c4 b5 n5 c5 b6 n6 c6 bl ⟨d,n,b,s,f⟩)
 (c:aT 100 bu h0 h (.slice l U i) d'.al) (r:gv h (.agg #[.slice l U i,.slice E y o,.slice D a t,.slice w A R]) d')
 (e:h'=bH h p (.cells (List.toArray [.int .u32 od,.int .i32 ol,.int .u32 os,.slice fb fm fc,.slice l U i,.slice E y o,.slice D a t,.slice w A R,.int .i64 n,.slice b5 n5 c5,.slice b6 n6 c6,.map (some mp)]) 149 (0,0))):
 jb h0 h' p mp od ol os fb fm fc l U i E y o D a t w A R b5 n5 c5 b6 n6 c6 bl ⟨d',n,b,s,f⟩:=by
 have x:cY [149] h h':=by rw[e];exact gi q.fn.out (by decide)
 have k:Kp [p] h h':=by rw[e];exact Kp.set (by simp)
 have g:=(congrFun e p).trans ae;exact⟨⟨g,q.fn.buf.mono (x.t (by decide)),q.fn.new,q.fn.le.aE (bs:=[p]) (by simpa using q.fn.new) k⟩,c.mono (x.t (by decide)),r.ls (x.t (by decide)),q.op.mono (x.t (by decide)),q.bk.mono (x.t (by decide)),q.bn,q.sm.x x,q.nm⟩
theorem bZE(q:jb h0 h p mp od ol os fb fm fc b1 n1 c1 b2 n2 c2 b3 n3 c3 b4 n4 c4 b5 n5 c5 b6 n6 c6 bl ⟨d,n,o,s,f⟩)(K:Small d)(z:Int){W:List gY}{key:Int}{m:Option Addr}{u r:Nat}(J:Sl 58 bt h (.slice m u r) W)
 (a:∀h' fb fm fc b1 n1 c1 b2 n2 c2 b3 n3 c3 b4 n4 c4,jb h0 h' p mp od ol os fb fm fc b1 n1 c1 b2 n2 c2 b3 n3 c3 b4 n4 c4 b5 n5 c5 b6 n6 c6 bl ⟨(cm d ⟨nm,W,key,only⟩).1,n,o,s,bT (decide ((cm d ⟨nm,W,key,only⟩).2=0)) f ⟨7,0,0,z⟩⟩->k (.tuple #[]) h'):
 Ct 46 [.pointer (some ⟨p,0,none⟩),.int .i64 z,.agg #[.string nm,.slice m u r,.int .i64 key,.bool only]] h k:=by
 obtain⟨A,V⟩:=Ar.ex;obtain⟨D,b⟩:∃D,cm d ⟨nm,W,key,only⟩=D:=⟨_,rfl⟩;rw[b]at a;obtain⟨d',e⟩:=D;have a:∀h' fb fm fc b1 n1 c1 b2 n2 c2 b3 n3 c3 b4 n4 c4,jb h0 h' p mp od ol os fb fm fc b1 n1 c1 b2 n2 c2 b3 n3 c3 b4 n4 c4 b5 n5 c5 b6 n6 c6 bl ⟨d',n,o,s,bT (decide (e=0)) f ⟨7,0,0,z⟩⟩->k (.tuple #[]) h':=a;have g:=q.fn.out;have y:A .az .eql e 0=decide (e=0):=aq A ..;refine dH fKM A Tryz.func46 ?_;cbv;repeat (first|rw[ao A] | (refine bc g ?_;cbv)|(refine⟨⟨_,rfl,rfl⟩,?_⟩;cbv))
 refine JN q.db J K b (λS F U O G P I M w L N v R E o1=>?_);have j:=q.le E;have B:=j.fn.out;have Z:=o1.buf.base q.fn.le;have Y:=o1.db;clear o1 b;cbv;repeat (first|rw[ao A] | (refine bc B ?_;cbv)|(refine⟨⟨_,rfl,rfl⟩,?_⟩;cbv))
 rw[y];generalize decide (e=0)=t at *;refine vg j t ⟨7,0,0,z⟩ (λT fb fm fc x l=>?_);have X:=Z.mono (x.t (by decide));have Q:=Y.ls (x.t (by decide));have i:=l.fn.out;cbv;repeat (first|rw[ao A] | (refine bc i ?_;cbv)|(refine⟨⟨_,rfl,rfl⟩,?_⟩;cbv))
 refine iB i (by show 8<=12;decide) (λC c=>?_);have H:=l.al X Q c;have:=a C fb fm fc F U O G P I M w L N v R H;clear a c;cbv;exact this
theorem cQn(q:jb h0 h p mp od ol os fb fm fc b1 n1 c1 b2 n2 c2 b3 n3 c3 b4 n4 c4 b5 n5 c5 b6 n6 c6 bl ⟨d,n,o,s,f⟩)(z:Int)(nm:ByteArray)
 (a:∀h' fb fm fc b1 n1 c1 b2 n2 c2 b3 n3 c3 b4 n4 c4,jb h0 h' p mp od ol os fb fm fc b1 n1 c1 b2 n2 c2 b3 n3 c3 b4 n4 c4 b5 n5 c5 b6 n6 c6 bl ⟨(dD d nm).1,n,o,s,bT (decide ((dD d nm).2=0)) f ⟨7,0,0,z⟩⟩->k (.tuple #[]) h'):
 Ct 47 [.pointer (some ⟨p,0,none⟩),.int .i64 z,.string nm] h k:=by
 obtain⟨A,M⟩:=Ar.ex;obtain⟨D,b⟩:∃D,dD d nm=D:=⟨_,rfl⟩;rw[b]at a;obtain⟨d',e⟩:=D;have a:∀h' fb fm fc b1 n1 c1 b2 n2 c2 b3 n3 c3 b4 n4 c4,jb h0 h' p mp od ol os fb fm fc b1 n1 c1 b2 n2 c2 b3 n3 c3 b4 n4 c4 b5 n5 c5 b6 n6 c6 bl ⟨d',n,o,s,bT (decide (e=0)) f ⟨7,0,0,z⟩⟩->k (.tuple #[]) h':=a;have g:=q.fn.out;have u:A .az .eql e 0=decide (e=0):=aq A ..;refine dH fKL A Tryz.func47 ?_;cbv;repeat (first|rw[ao A] | (refine bc g ?_;cbv)|(refine⟨⟨_,rfl,rfl⟩,?_⟩;cbv))
 refine Xd q.db nm b (λK B U O E J I G r F H m R y o1=>?_);have j:=q.le y;have v:=j.fn.out;have Z:=o1.buf.base q.fn.le;have Y:=o1.db;clear o1 b;cbv;repeat (first|rw[ao A] | (refine bc v ?_;cbv)|(refine⟨⟨_,rfl,rfl⟩,?_⟩;cbv))
 rw[u];generalize decide (e=0)=t at *;refine vg j t ⟨7,0,0,z⟩ (λL fb fm fc x l=>?_);have X:=Z.mono (x.t (by decide));have Q:=Y.ls (x.t (by decide));have i:=l.fn.out;cbv;repeat (first|rw[ao A] | (refine bc i ?_;cbv)|(refine⟨⟨_,rfl,rfl⟩,?_⟩;cbv))
 refine iB i (by show 8<=12;decide) (λw c=>?_);have C:=l.al X Q c;have:=a w fb fm fc B U O E J I G r F H m R C;clear a c;cbv;exact this
variable {h0 h gL h':ab}{p mp:Nat}{od ol os:Int}{fb:Option Addr}{fm fc:Nat}{b1 b2 b3 b4 b5 b6:Option Addr}{n1 c1 n2 c2 n3 c3 n4 c4 n5 c5 n6 c6:Nat}{bl:List Kf}
theorem Pm{m:Nat}(q:vV h m G)(j:n=(G.length:Int))
 (a:∀g,hl g=aA ((G.getLast?).getD (List.replicate 32 0))->k (.agg (List.toArray (hl g))) h):
 dF (λ_=>Tryz.prog) (λ_=>Instr.lookup 139 (.map (some m)) (.int .i64 n) false) h k:=by
 refine Kv q n (λe=>a zG ?_) (λi g b f c d=>a g ?_)
 .have:G=[]:=ee (by omega);subst this;rfl
 have:G.getLast?=some b:=by rw[iQn,<-c];congr 1;omega
 rw[this];exact d
theorem aQH{m:Nat}{x:Bs}(q:vV h m (G++[x]))(j:n=((G.length+1:Nat):Int))
 (f:∀g,hl g=aA x->k (.agg (List.toArray (hl g))) h):
 dF (λ_=>Tryz.prog) (λ_=>Instr.lookup 139 (.map (some m)) (.int .i64 n) false) h k:=by
 refine Kv q n (λd=>?_) (λi g b c a e=>f g ?_)
 .rw[dr,hJF]at d;omega
 have c:i=G.length:=by omega
 subst c;rw[hJP (mr _)]at a;simp at a;rw[a];exact e
theorem Sn{b:List Bs}{v:List Fd}(q:jb h0 h p mp od ol os fb fm fc b1 n1 c1 b2 n2 c2 b3 n3 c3 b4 n4 c4 b5 n5 c5 b6 n6 c6 bl ⟨d,n,b,u,v⟩)(Lm:∀x∈u,x.length=32)(ho:b.length<=2^30)(hs:u.length<=2^30)
 {gs:Nat->Int} {a:Bs} (CT:hl gs=aA a) (iX:a.length=32) 
 (y:∀h' fb fm fc b6 n6 c6 bl,jb h0 h' p mp od ol os fb fm fc b1 n1 c1 b2 n2 c2 b3 n3 c3 b4 n4 c4 none 0 0 b6 n6 c6 bl (lh ⟨d,n,b,u,v⟩ a)->k (.tuple #[]) h'):
 Ct 122 [.pointer (some ⟨p,0,none⟩),.agg (List.toArray (hl gs))] h k:=by
 obtain⟨A,hA⟩:=Ar.ex;have g:=q.fn.out;have yB:n5=b.length:=q.op.sl.len;have Bx:n6=u.length:=by rw[q.bk.sl.len,q.bn]
 have gz:aM (A .aC .add .i64 (A .nat n6) 1) (n6+1):=(aM.nat n6).succ (A:=A);obtain⟨z,yx⟩:∃z,z=A .aC .add .i64 (A .nat n6) 1:=⟨_,rfl⟩;rw[<-yx]at gz;have MG:A .aC .sub .i64 z 1=(u.length:Int):=by rw[hA.aC,gz.eq];show IntKind.i64.wrap (((n6+1:Nat):Int)-1)=_;rw[IntWalk.i64_in _ (by omega)];omega
 have G:z=((u.length+1:Nat):Int):=by rw[gz.eq,Bx]
 have wY:((u.getLast?).getD (List.replicate 32 0)).length=32:=by
  cases iX:u.getLast? with
  |none=>rfl
  |some x=>exact Lm x (iQm iX)
 have hB:eK (nZ b u)=eK ⟨z,(u.getLast?).getD (List.replicate 32 0),eO b,A .nat n5⟩:=by rw[hA.nat,G,yB];rfl
 have J:=rI (nZ b u);have hV:lh ⟨d,n,b,u,v⟩ a=⟨d,n,[],u++[eK (nZ b u)],bT (decide (eK (nZ b u)=a)) v ⟨5,z,0,0⟩⟩:=by rw[G];rfl
 rw[hV]at y;clear hV;rw[hB]at y J;obtain⟨r,K⟩:∃r,r=(u.getLast?).getD (List.replicate 32 0):=⟨_,rfl⟩;rw[<-K]at y J wY;rw[<-K]at hB;refine dH cKw A Tryz.func122 ?_;cbv;repeat (first|rw[ao A] | (refine bc g ?_;cbv)|(refine⟨⟨_,rfl,rfl⟩,?_⟩;cbv))
 refine Tl b.length q.op.sl (mr _) (λh1 g1 l1 uv oz=>?_);have M:=q.le l1;have T:=M.fn.out;generalize eO b=root at *;cbv;repeat (first|rw[ao A] | (refine bc T ?_;cbv)|(refine⟨⟨_,rfl,rfl⟩,?_⟩;cbv))
 rw[<-yx];have Z:vV h1 mp u:=M.sm;refine Pm Z MG (λgp Rd=>?_);rw[<-K]at Rd;clear K hB Z;cbv;repeat (first|rw[ao A] | (refine bc T ?_;cbv)|(refine⟨⟨_,rfl,rfl⟩,?_⟩;cbv))
 intro nn h2 oH e2;have l2:Le h1 h2:=by rw[e2];exact Le.set oH
 have ak:Sl 344 Pw h2 (.slice (some ⟨nn,0,none⟩) 1 1) [⟨z,r,root,A .nat n5⟩]:=bC (s:=Pw) (cs:=Xt z gp g1 (A .nat n5)) ((congrFun e2 nn).trans ae) ⟨(Bi ..).trans (by rw[Rd,uv]),wY,oz⟩;have f:=M.le l2;have S:=f.fn.out;clear e2;cbv;repeat (first|rw[ao A] | (refine bc S ?_;cbv)|(refine⟨⟨_,rfl,rfl⟩,?_⟩;cbv))
 refine f.bk.app ak (by decide) rfl (by decide) (by omega) f.fn.le (λm3 tD tC E QV l3 t3 k3 u3=>?_);have R:E p=_:=k3 _ _ S (.inr (.inr (λc fr e=>by cases e)));have m:vV E mp u:=f.sm.x (ex:=[344]) (λbb o hb bm=>k3 bb o hb (.inr (.inr (λc fr e=>bm _ _ _ e (by decide)))));have F:=f.fn.buf.mono (t3 _ (by decide));have j:=f.tb.mono (t3 _ (by decide));have P:=f.db.ls (t3 _ (by decide));have gA:=q.fn.new;have yT:=q.nm;clear k3 M f T S;cbv;repeat (first|rw[ao A] | (refine bc R ?_;cbv)|(refine⟨⟨_,rfl,rfl⟩,?_⟩;cbv))
 refine iB R (by show 11<=12;decide) (λw B=>?_);have N:=(congrFun B p).trans ae;have x4:cY [149] E w:=by rw[B];exact gi R (by decide)
 have k4:Kp [p] E w:=by rw[B];exact Kp.set (by simp)
 have N:w p=some (.cells (List.toArray [.int .u32 od,.int .i32 ol,.int .u32 os,.slice fb fm fc,.slice b1 n1 c1,.slice b2 n2 c2,.slice b3 n3 c3,.slice b4 n4 c4,.int .i64 n,.slice b5 n5 c5,.slice tD m3 tC,.map (some mp)]) 149 (0,0)):=N;clear B;cbv;repeat rw[ao A]
 refine iB N (by show 10<=12;decide) (λH C=>?_);have I:=(congrFun C p).trans ae;have x5:cY [149] w H:=by rw[C];exact gi N (by decide)
 have k5:Kp [p] w H:=by rw[C];exact Kp.set (by simp)
 have I:H p=some (.cells (List.toArray [.int .u32 od,.int .i32 ol,.int .u32 os,.slice fb fm fc,.slice b1 n1 c1,.slice b2 n2 c2,.slice b3 n3 c3,.slice b4 n4 c4,.int .i64 n,.slice none 0 0,.slice tD m3 tC,.map (some mp)]) 149 (0,0)):=I;have Y:=x4.trans x5;have l5:Le h0 H:=l3.aE (bs:=[p]) (by simpa using gA) (k4.trans k5);have D:=F.mono (Y.t (by decide));have Q:=j.mono (Y.t (by decide));have O:=P.ls (Y.t (by decide));have u5:=u3.mono (Y.t (by decide));have X:=m.x Y;clear C x4 x5 k4 k5 Y R N F j P u3 m l3;cbv;repeat (first|rw[ao A] | (refine bc I ?_;cbv)|(refine⟨⟨_,rfl,rfl⟩,?_⟩;cbv))
 refine dQg Rd uv wY oz (λh6 g3 l ai=>?_);have U:=l _ _ I;have W:=X.x (l.x []);generalize eK ⟨z,r,root,A .nat n5⟩=bh at *;cbv;repeat (first|rw[ao A] | (refine bc U ?_;cbv)|(refine⟨⟨_,rfl,rfl⟩,?_⟩;cbv))
 refine UA W G ai (λh7 V k7 i=>?_);have L:=i [149] _ _ _ _ (by simp) U;have l7:Le h0 h7:=(l5.trans l).aE (bs:=[mp]) (by simpa using yT) k7;have q7:jb h0 h7 p mp od ol os fb fm fc b1 n1 c1 b2 n2 c2 b3 n3 c3 b4 n4 c4 none 0 0 tD m3 tC (bl++[⟨z,r,root,A .nat n5⟩]) ⟨d,n,[],u++[bh],v⟩:=
  ⟨⟨L,(D.mono (l.t _)).mono (i _),gA,l7⟩,(Q.mono (l.t _)).mono (i _),(O.mono l).ls (i _),aT.nil,(u5.mono (l.t _)).mono (i _),by rw[dr,dr,q.bn];rfl,V,yT⟩
 clear k7 i U I W X D Q O u5 l5 l;cbv;repeat (first|rw[ao A] | (refine bc L ?_;cbv)|(refine⟨⟨_,rfl,rfl⟩,?_⟩;cbv))
 refine aQH V G (λg8 aj=>?_);cbv;repeat (first|rw[ao A] | (refine bc L ?_;cbv)|(refine⟨⟨_,rfl,rfl⟩,?_⟩;cbv))
 refine yV aj CT J iX ?_;generalize decide (bh=a)=t at *;cbv;repeat (first|rw[ao A] | (refine bc L ?_;cbv)|(refine⟨⟨_,rfl,rfl⟩,?_⟩;cbv))
 refine vg q7 t ⟨5,z,0,0⟩ (λh8 fb fm fc x8 q8=>?_);have:=y h8 fb fm fc _ _ _ _ q8;clear y;cbv;exact this
theorem aKl{i:Int}(q:jb h0 h p mp od ol os fb fm fc b1 n1 c1 b2 n2 c2 b3 n3 c3 b4 n4 c4 b5 n5 c5 b6 n6 c6 bl ⟨d,i,o,u,f⟩)(L:∀x∈u,x.length=32)(E:o.length<=2^30)(F:u.length<=2^30)
 (n:Int) {y:Nat->Int} {s:Bs} (C:hl y=aA s) (iX:s.length=32)  (c:IG ⟨d,i,o,u,f⟩ 0 (.dM n s)=V) 
 (v:∀h' fb fm fc b5 n5 c5 b6 n6 c6 bl,jb h0 h' p mp od ol os fb fm fc b1 n1 c1 b2 n2 c2 b3 n3 c3 b4 n4 c4 b5 n5 c5 b6 n6 c6 bl V->k (.tuple #[]) h'):
 Ct 49 [.pointer (some ⟨p,0,none⟩),.int .i64 n,.agg (List.toArray (hl y))] h k:=by
 obtain⟨A,D⟩:=Ar.ex;have g:=q.fn.out;have H:n5=o.length:=q.op.sl.len;have B:n6=u.length:=by rw[q.bk.sl.len,q.bn]
 have c:V=if n≠((u.length+1:Nat):Int)\/o=[]then⟨d,i,o,u,iS f ⟨2,n,0,0⟩⟩else lh ⟨d,i,o,u,f⟩ s:=c.symm
 have z:aM (A .aC .add .i64 (A .nat n6) 1) (n6+1):=(aM.nat n6).succ (A:=A);have m:A .az .neq n (A .aC .add .i64 (A .nat n6) 1)=decide (n≠((u.length+1:Nat):Int)):=by rw[av A,z.eq,B]
 have r:A .az .eql (A .nat n5) 0=decide (o=[]):=by rw[aq A,D.nat];refine decide_eq_decide.2 ⟨λe=>ee (by simp only[kH]at e;omega),λe=>?_⟩;rw[H,e];rfl
 clear z;have b:(n≠((u.length+1:Nat):Int)\/o=[])->∀h' fb fm fc,jb h0 h' p mp od ol os fb fm fc b1 n1 c1 b2 n2 c2 b3 n3 c3 b4 n4 c4 b5 n5 c5 b6 n6 c6 bl ⟨d,i,o,u,iS f ⟨2,n,0,0⟩⟩->k (.tuple #[]) h':=λe h' fb fm fc w=>by
  rw[if_pos e]at c;exact v h' fb fm fc _ _ _ _ _ _ _ (by rw[c];exact w)
 have j:¬(n≠((u.length+1:Nat):Int)\/o=[])->∀h' fb fm fc b6 n6 c6 bl,jb h0 h' p mp od ol os fb fm fc b1 n1 c1 b2 n2 c2 b3 n3 c3 b4 n4 c4 none 0 0 b6 n6 c6 bl (lh ⟨d,i,o,u,f⟩ s)->k (.tuple #[]) h':=λe h' fb fm fc b6 n6 c6 bl w=>by
  rw[if_neg e]at c;exact v h' fb fm fc _ _ _ _ _ _ _ (by rw[c];exact w)
 clear v c;refine dH fKJ A Tryz.func49 ?_;cbv;repeat (first|rw[ao A] | (refine bc g ?_;cbv)|(refine⟨⟨_,rfl,rfl⟩,?_⟩;cbv))
 rw[m];by_cases a:n≠((u.length+1:Nat):Int)
 .have b:=b (.inl a);rw[aH a];clear j m r;cbv;refine Pa q ⟨2,n,0,0⟩ (λa fb fm fc G l=>?_);have:=b a fb fm fc l;clear b;cbv;exact this
 rw[ag a];cbv;repeat (first|rw[ao A] | (refine bc g ?_;cbv)|(refine⟨⟨_,rfl,rfl⟩,?_⟩;cbv))
 rw[r];by_cases t:o=[]
 .have b:=b (.inr t);rw[aH t];clear j m r;cbv;refine Pa q ⟨2,n,0,0⟩ (λa fb fm fc G l=>?_);have:=b a fb fm fc l;clear b;cbv;exact this
 have j:=j (λe=>e.elim a t);rw[ag t];clear b m r;cbv;refine Sn q L E F C iX (λa fb fm fc b6 n6 c6 bl l=>?_);have:=j a fb fm fc b6 n6 c6 bl l;clear j;cbv;exact this
theorem uO{a:Type}{T:List a}{t:a}(h:T[i]? =some t):T.set i t=T:=by obtain⟨b,c⟩:=dB.1 h;rw[<-c];exact List.set_getElem_self b
theorem gv.al{h h':ab}{b1 b2 b3 b4:Option Addr}{n1 c1 n2 c2 n3 c3 n4 c4:Nat}{T:List bM}(q:gv h (.agg #[.slice b1 n1 c1,.slice b2 n2 c2,.slice b3 n3 c3,.slice b4 n4 c4]) d)(l:cf [87,211,228,213,316] h h')(t:Sl 100 bu h' (.slice b1 n1 c1) T):gv h' (.agg #[.slice b1 n1 c1,.slice b2 n2 c2,.slice b3 n3 c3,.slice b4 n4 c4]) (ba d T):=by obtain⟨_,_,_,_,_,_,_,_,_,_,_,_,w,e,g,a,b,c,f⟩:=q.out;cases e;exact⟨_,_,_,_,_,_,_,_,_,_,_,_,w,rfl,t,a.mono (l.sub),b.mono (l.sub),c.mono (l.sub),f⟩
variable {h0 h gL h':ab}{p mp:Nat}{od ol os:Int}{fb:Option Addr}{fm fc:Nat}{b1 b2 b3 b4 b5 b6:Option Addr}{n1 c1 n2 c2 n3 c3 n4 c4 n5 c5 n6 c6:Nat}{bl:List Kf}
theorem jb.dQz{b:Int}{c:List Bs}{n:Nat}{t a:bM}(q:jb h0 h p mp od ol os fb fm fc (some ⟨n,0,none⟩) n1 c1 b2 n2 c2 b3 n3 c3 b4 n4 c4 b5 n5 c5 b6 n6 c6 bl ⟨d,b,c,s,f⟩)(V:h0 n=none)(e:n1=d.al.length)(k:Kp [n] h h')(t:∀tys,100∉tys->cf tys h h')(x:cY [100] h h')(o:cM 100 bu h' n c1 (d.al.set i a)):
 jb h0 h' p mp od ol os fb fm fc (some ⟨n,0,none⟩) n1 c1 b2 n2 c2 b3 n3 c3 b4 n4 c4 b5 n5 c5 b6 n6 c6 bl ⟨ba d (d.al.set i a),b,c,s,f⟩:=
 have hl:n1=(d.al.set i a).length:=by rw[ml];exact e
 ⟨⟨t [149] (by decide) _ _ _ _ (by simp) q.fn.out,q.fn.buf.mono (t _ (by decide)),q.fn.new,q.fn.le.aE (bs:=[n]) (by simpa using V) k⟩,o.buf V hl,q.db.al (t _ (by decide)) (o.sl hl),q.op.mono (t _ (by decide)),q.bk.mono (t _ (by decide)),q.bn,q.sm.x x,q.nm⟩
theorem Xq{nx:Int}{op su:List Bs}(q:jb h0 h p mp od ol os fb fm fc b1 n1 c1 b2 n2 c2 b3 n3 c3 b4 n4 c4 b5 n5 c5 b6 n6 c6 bl ⟨d,nx,op,su,fo⟩)(vi:VI d){w:ByteArray}{u:Int}{l:Row}{rb:Option Addr}{rn rc:Nat}(qr:Sl 87 aZ h (.slice rb rn rc) l)
 (a:∀h',cY [100] h h'->jb h0 h' p mp od ol os fb fm fc b1 n1 c1 b2 n2 c2 b3 n3 c3 b4 n4 c4 b5 n5 c5 b6 n6 c6 bl ⟨ba d (jz d.al ⟨w,u,l⟩).1,nx,op,su,fo⟩->k (.bool (jz d.al ⟨w,u,l⟩).2) h'):
 Ct 119 [.pointer (some ⟨p,0,none⟩),.agg #[.string w,.int .i64 u,.slice rb rn rc]] h k:=by
 obtain⟨A,hA⟩:=Ar.ex;have g:=q.fn.out;have qt:Sl 100 bu h (.slice b1 n1 c1) d.al:=q.tb.sl;have ai:A .az .lss (-1) 0=true:=by rw[aJ A];rfl
 have aw:A .az .eql u 1=decide (u=1):=aq A ..;have Uc:=qr.len;obtain⟨D,f⟩:∃D,D=jz d.al ⟨w,u,l⟩:=⟨_,rfl⟩;rw[<-f]at a;refine dH cKy A Tryz.func119 ?_;cbv;refine hXk g qt w (λh1 z E hz=>?_);have F:=q.le E;have g1:=F.fn.out;rcases hz.out with⟨gz,bg⟩|⟨i,t,eW,I,O,bg⟩
 .subst gz;rw[Dr (c:=⟨w,u,l⟩) bg]at f;rw[f]at a;have a:=a h1 (E.x _) F;clear f;cbv;rw[ai];cbv;exact a
 have hn:t.S.name=w:=qH O;rw[Dq (c:=⟨w,u,l⟩) I hn bg]at f;have BL:=(vi.al t (kF I)).1;have aI:=(dB.1 I).1;have eL:n1=d.al.length:=qt.len;have aj:A .az .lss z 0=false:=eW.vf (A:=A);have dJ:=eW.eq;have Og:0<=z/\z<(n1:Int):=eW.ix (by omega);clear hz bg O;cbv;rw[aj];obtain⟨nb,rfl,dV,P,ow⟩:=F.tb.own (by omega);have IK:=qr.mono (E.t _);have ea:(some (⟨nb,0,none⟩:Addr)).isSome=true/\0<=z/\z<(n1:Int):=⟨rfl,Og⟩;cbv;repeat (first|rw[ao A] | (refine bc g1 ?_;cbv)|(refine⟨⟨_,rfl,rfl⟩,?_⟩;cbv))
 refine⟨ea,?_⟩;cbv;refine F.tb.sl.load I dJ (λcs C=>?_);obtain⟨⟨n,m,j,to⟩,B⟩:=t;obtain⟨sb,sn,sc,aP,X,aD,C,qs,q4⟩:=C;have C:cs=[.string n,.slice sb sn sc,.int .i64 j,.bool to,.slice aP X aD]:=C;subst C;have aW:=q4.len;have ak:=BL.le;have dq:0<=j:=BL.k0;have Q:X<=2^37:=by have:B.length<=200:=ak;have:X=B.length:=aW;omega
 cbv;rw[aw];by_cases L:u=1
 .rw[Lw (c:=⟨w,u,l⟩) L]at f;rw[aH L];cbv;refine PN qs q4 IK Q (λG y1 m1 k1 y2 m2 k2 T x y r1 r2 H=>?_);have f:D=(d.al.set i (bq ⟨⟨n,m,j,to⟩,B⟩ l).1,decide ((bq ⟨⟨n,m,j,to⟩,B⟩ l).2=0)):=f;rw[<-H]at f;have f:D=(d.al.set i ⟨⟨n,m,j,to⟩,T⟩,decide (x=0)):=f;rw[f]at a;have fe:A .az .eql x 0=decide (x=0):=aq A ..;have J:=F.le y;have g2:=J.fn.out;clear H f;cbv;repeat (first|rw[ao A] | (refine bc g2 ?_;cbv)|(refine⟨⟨_,rfl,rfl⟩,?_⟩;cbv))
  refine⟨ea,?_⟩;cbv;have rT:bu.R G [.string n,.slice y1 m1 k1,.int .i64 j,.bool to,.slice y2 m2 k2] ⟨⟨n,m,j,to⟩,T⟩:=⟨_,_,_,_,_,_,rfl,r1,r2⟩;refine(ow.mono (y.t _)).setAt (by decide) aI dJ rfl rT (λS N t3 o3=>?_);have Y:cY [100] G S:=N.x (λb U o V=>by
   simp only[hKt]at U;subst U;obtain⟨c,hc,-⟩:=(ow.mono (y.t _)).out;rw[hc]at V;cases V;exact⟨_,_,_,rfl,by decide⟩)
  have q3:=J.dQz (t:=⟨⟨n,m,j,to⟩,B⟩) dV P N t3 Y o3;have a:=a S (((E.trans y).x _).trans Y) q3;cbv;rw[fe];exact a
 rw[ag L];cbv;cases to with
 |true=>
  rw[Hh (c:=⟨w,u,l⟩) L rfl]at f;have f:D=(d.al,false):=by rw[f];simp only[];rw[uO I]
  rw[f]at a;have a:=a h1 (E.x _) F;cbv;exact a
 |false=>
  have aX:A .az .geq j (A .nat rn)=decide (j>=(l.length:Int)):=by rw[cZ A,hA.nat,Uc];rfl
  cbv;rw[aX];by_cases gW:j>=(l.length:Int)
  .rw[Xf (c:=⟨w,u,l⟩) L rfl gW]at f;have f:D=(d.al,false):=by rw[f];simp only[];rw[uO I]
   rw[f]at a;have a:=a h1 (E.x _) F;rw[aH gW];cbv;exact a
  obtain⟨v,Zf,MW,-⟩:=Ej (r:=l) dq (by omega);have Rn:rb.isSome=true/\0<=j/\j<(rn:Int):=⟨qr.aR,by omega,by omega⟩;have CR:j=(j.toNat:Int):=by omega
  obtain⟨Dt,K⟩:∃Dt,aS ⟨⟨n,m,j,false⟩,B⟩ v=Dt:=⟨_,rfl⟩;have Ol:=Hg (t:=⟨⟨n,m,j,false⟩,B⟩) (c:=⟨w,u,l⟩) L rfl gW (D:=Dt) (by rw[<-K,<-MW]);rw[Ol]at f;obtain⟨vk,vn,vs⟩:=v;rw[ag gW];clear Ol MW;cbv;refine⟨Rn,?_⟩;cbv;refine IK.load Zf CR (λcs C=>?_);have C:cs=[.int .i64 vk,.int .i64 vn,.string vs]:=C;subst C;cbv;refine Ko qs q4 Q ⟨vk,vn,vs⟩ (λG y1 m1 k1 y2 m2 k2 y3 m3 N T R x y r1 r2 r3 H=>?_);have H:Dt=(⟨⟨n,m,j,false⟩,T⟩,R,x):=by rw[<-K];exact H.symm
  rw[H]at f;have f:D=(d.al.set i (if x=0/\gB R l=true then((⟨⟨n,m,j,false⟩,T⟩:bM),true)else(⟨⟨n,m,j,false⟩,B⟩,false)).1,(if x=0/\gB R l=true then((⟨⟨n,m,j,false⟩,T⟩:bM),true)else(⟨⟨n,m,j,false⟩,B⟩,false)).2):=f;have fe:A .az .neq x 0=decide (x≠0):=av A ..;have J:=F.le y;have g2:=J.fn.out;have an:=IK.mono (y.t _);have Z:¬(x=0/\gB R l=true)->D=(d.al,false):=λe=>by
   rw[f,if_neg e];simp only[];rw[uO I]
  have W:(x=0/\gB R l=true)->D=(d.al.set i ⟨⟨n,m,j,false⟩,T⟩,true):=λe=>by
   rw[f,if_pos e]
  clear H f K;cbv;rw[fe];by_cases M:x≠0
  .rw[Z (λh=>M h.1)]at a;have a:=a G ((E.trans y).x _) J;rw[aH M];clear W Z;cbv;exact a
  rw[ag M];have M:=se.1 M;cbv;refine Td r3 an ?_;obtain⟨s,hs⟩:∃s,gB R l=s:=⟨_,rfl⟩;rw[hs]at Z W |-;have RG:A .not s= !s:=by rw[hA.not]
  cases s with
  |false=>rw[Z (λh=>by cases h.2)]at a;have a:=a G ((E.trans y).x _) J;clear W Z;cbv;rw[RG];cbv;exact a
  |true=>
   rw[W ⟨M,rfl⟩]at a;clear W Z;cbv;rw[RG];cbv;repeat (first|rw[ao A] | (refine bc g2 ?_;cbv)|(refine⟨⟨_,rfl,rfl⟩,?_⟩;cbv))
   refine⟨ea,?_⟩;cbv;have rT:bu.R G [.string n,.slice y1 m1 k1,.int .i64 j,.bool false,.slice y2 m2 k2] ⟨⟨n,m,j,false⟩,T⟩:=⟨_,_,_,_,_,_,rfl,r1,r2⟩;refine(ow.mono (y.t _)).setAt (by decide) aI dJ rfl rT (λS N t3 o3=>?_);have Y:cY [100] G S:=N.x (λb U o V=>by
    simp only[hKt]at U;subst U;obtain⟨c,hc,-⟩:=(ow.mono (y.t _)).out;rw[hc]at V;cases V;exact⟨_,_,_,rfl,by decide⟩)
   have q3:=J.dQz (t:=⟨⟨n,m,j,false⟩,B⟩) dV P N t3 Y o3;have a:=a S (((E.trans y).x _).trans Y) q3;cbv;exact a
theorem Xp{b:List Bs}{T:List bM}(q:jb h0 h p mp od ol os fb fm fc b1 n1 c1 b2 n2 c2 b3 n3 c3 b4 n4 c4 b5 n5 c5 b6 n6 c6 bl ⟨ba d T,n,b,s,f⟩)(v:VI (ba d T)){t:ByteArray}{c:Int}{i:Option Addr}{l j:Nat}(u:Sl 87 aZ h (.slice i l j) r)
 {a:List bM} {o:Bool} (D:jz T ⟨t,c,r⟩=(a,o)) 
 (m:∀h',cY [100] h h'->jb h0 h' p mp od ol os fb fm fc b1 n1 c1 b2 n2 c2 b3 n3 c3 b4 n4 c4 b5 n5 c5 b6 n6 c6 bl ⟨ba d a,n,b,s,f⟩->k (.bool o) h'):
 Ct 119 [.pointer (some ⟨p,0,none⟩),.agg #[.string t,.int .i64 c,.slice i l j]] h k:=
 Xq q v u (λh' x g=>by
  have e:jz (ba d T).al ⟨t,c,r⟩=(a,o):=D;rw[e]at g |-;exact m h' x g)
theorem Cz{r:Row×St}{x:Row}(h:gN r=some x):x=r.1/\∀v∈x,dX v=0:=by
 unfold gN at h;split at h
 .split at h
  .rename_i a;cases h;exact⟨rfl,λv b=>qH (GD.1 a v b)⟩
  cases h
 cases h
theorem Mu{l:Bs}{x:Row}(h:dS l=some x):x.length<=6/\∀v∈x,dX v=0:=by
 unfold dS at h;split at h
 .obtain⟨rfl,a⟩:=Cz h;exact⟨by rw[Cl];exact qT _,a⟩
 obtain⟨rfl,a⟩:=Cz h;exact⟨by rw[Cl];omega,a⟩
theorem Xn{s:St}(h:(gP s).2≠none):NV (gP s).1:=by
 cases p:dS (aG (aG (ar 1 s).2).2).1 with
 |none=>refine absurd ?_ h;unfold gP;simp only[p];rw[if_pos (.inl trivial)]
 |some r=>
  obtain⟨c,b⟩:=Mu p;have a:(gP s).1.row=r:=by show(dS (aG (aG (ar 1 s).2).2).1).getD []=r;rw[p];rfl
  refine⟨⟨by rw[a];omega,zA _,λx hx=>?_⟩,λx hx=>b x (by rw[<-a];exact hx)⟩;have:=(OB.of (b x (by rw[<-a];exact hx))).z;omega
theorem aKe(s:St):∀i,(cX s i).2.2≠none->∀c∈(cX s i).1,NV c:=λi=>by
 induction i with
 |zero=>exact λ_ c a=>by cases a
 |succ i f=>
  intro h c a;have h:(bz (gP (cX s i).2.2).2 32).2≠none:=h;have b:(gP (cX s i).2.2).2≠none:=λe=>h (by rw[e];exact pa 32);have d:(cX s i).2.2≠none:=λe=>b (by rw[e];exact Dn);have a:c∈(cX s i).1++[(gP (cX s i).2.2).1]:=a;rcases hJJ.1 a with a|a
  .exact f d c a
  simp at a;rw[a];exact Xn b
structure fQu(t:aQd):Prop where
 len:t.rows.length=t.xI.length
 root:t.root.length=32
 dM:t.block.length=32
 fJS:∀c∈t.xI,NV c
theorem SD(t:Bool×St):(vQ t).1.length=32:=by
 unfold vQ;split
 .exact kR _ 32
 rfl
theorem Gj{l:Bs}{t:aQd}(h:cF l=some (.tx t)):fQu t:=by
 have h:uW (ar 1 (some l)).1 (ar 1 (some l)).2=some (.tx t):=h;generalize (ar 1 (some l)).1=k at h;generalize (ar 1 (some l)).2=s at h;unfold uW at h;split at h
 .split at h
  .cases p:dc (aG s).1 with
   |none=>rw[p]at h;cases h
   |some x=>rw[p]at h;cases h
  cases h
 split at h
 .split at h
  .cases h
  cases h
 split at h
 .split at h
  .rename_i z;cases h;have z:(vQ (bA (bz (cX (ar 1 (ar 8 s).2).2 (ar 1 (ar 8 s).2).1).2.2 32).2)).2=some []:=z;have b:(cX (ar 1 (ar 8 s).2).2 (ar 1 (ar 8 s).2).1).2.2≠none:=λe=>by
    rw[AS e]at z;cases z
   have hl:=yY (ar 1 (ar 8 s).2).2 (ar 1 (ar 8 s).2).1;exact⟨hl.2.trans hl.1.symm,kR _ 32,SD _,aKe _ _ b⟩
  cases h
 split at h
 .split at h
  .cases h
  cases h
 cases h
theorem CB{l:Bs}{u:Bs}(h:cF l=some (.dM n u)):u.length=32:=by
 have h:uW (ar 1 (some l)).1 (ar 1 (some l)).2=some (.dM n u):=h;generalize (ar 1 (some l)).1=k at h;generalize (ar 1 (some l)).2=s at h;unfold uW at h;split at h
 .split at h
  .cases p:dc (aG s).1 with
   |none=>rw[p]at h;cases h
   |some x=>rw[p]at h;cases h
  cases h
 split at h
 .split at h
  .cases h
  cases h
 split at h
 .split at h
  .cases h
  cases h
 split at h
 .split at h
  .cases h;exact kR _ 32
  cases h
 cases h
theorem zX{s:List bM×List Fd}{c:cW}{r:Bs}(a:L[i]? =some c)(b:rows[i]? =some r):
 lW n id rows i s (L.drop i)=lW n id rows (i+1) ((jz s.1 c).1,bT (jz s.1 c).2 (bT (decide (dy id i c=r)) s.2 ⟨3,n,id,(i:Int)⟩) ⟨7,n,id,(i:Int)⟩) (L.drop (i+1)):=by
 have h:=dB.1 a;rw[qM h.1,h.2];show lW n id rows (i+1) ((jz s.1 c).1,bT (jz s.1 c).2 (bT (decide (dy id i c=(rows[i]?).getD [])) s.2 ⟨3,n,id,(i:Int)⟩) ⟨7,n,id,(i:Int)⟩) _=_;rw[b];rfl
theorem BF{c:cW}(h:L[i]? =some c):dg id (L.take (i+1))=dg id (L.take i)++[dy id i c]:=by have a:=dB.1 h;unfold dg;rw[xx,h];show List.mapIdx _ (L.take i++[c])=_;rw[List.mapIdx_append,dW,zv (by have:=a.1;omega)];simp
structure HL(h0 hL:ab):Prop where
 le:Le h0 hL
 ty:∀b o,hL b=some o->h0 b=some o\/∃c fr,o=.cells c 104 fr
theorem HL.jO{h0 L d a:ab}{ex:List Nat}(q:HL h0 L)(l:Le L d)(x:cY ex d a)(hx:104∉ex)(g:Le h0 a):Le L a:=λb o f=>by
 rcases q.ty b o f with h| ⟨c,fr,rfl⟩
 .exact g b o h
 exact x b _ (l b _ f) (λ_ _ _ e=>by cases e;exact hx)
variable {h0 h gL h':ab}{p mp:Nat}{od ol os:Int}{fb:Option Addr}{fm fc:Nat}{b1 b2 b3 b4 b5 b6:Option Addr}{n1 c1 n2 c2 n3 c3 n4 c4 n5 c5 n6 c6:Nat}{bl:List Kf}
theorem jb.hl{v:VS}(q:jb h0 h p mp od ol os fb fm fc b1 n1 c1 b2 n2 c2 b3 n3 c3 b4 n4 c4 b5 n5 c5 b6 n6 c6 bl v):∃L,HL h0 L/\Le L h/\aT 104 iM h0 L (.slice b5 n5 c5) v.open_:=by
 rcases q.op.out with g| ⟨n,cap,f,d,o⟩
 .exact⟨h0,⟨Le.refl _,λb o a=>.inl a⟩,q.fn.le,⟨.inl g⟩⟩
 obtain⟨c,j,r,hl⟩:=o.out;refine⟨bH h0 n (.cells (List.toArray c) 104 (0,0)),⟨Le.set d,λb x a=>?_⟩,λb x a=>?_,⟨.inr ⟨n,cap,f,d,⟨c,ae,⟨r.1,λi x hx=>r.2 i x hx⟩,hl⟩,o.le,o.bd⟩⟩⟩
 .by_cases e:b=n
  .subst e;rw[ae]at a;cases a;exact .inr ⟨_,_,rfl⟩
  rw[bU e]at a;exact .inl a
 by_cases e:b=n
 .subst e;rw[ae]at a;rw[<-a];exact j
 rw[bU e]at a;exact q.fn.le b x a
theorem jb.beside{L:ab}(q:jb h0 h p mp od ol os fb fm fc b1 n1 c1 b2 n2 c2 b3 n3 c3 b4 n4 c4 b5 n5 c5 b6 n6 c6 bl ⟨d,n,o,s,f⟩)(b:aT 104 iM h0 L (.slice b5 n5 c5) o)(l:Le h0 h')(a:Le L h')(t:∀tys,104∉tys->cf tys h h')(x:cY [104] h h'):
 jb h0 h' p mp od ol os fb fm fc b1 n1 c1 b2 n2 c2 b3 n3 c3 b4 n4 c4 b5 n5 c5 b6 n6 c6 bl ⟨d,n,o,s,f⟩:=
 ⟨⟨t [149] (by decide) _ _ _ _ (by simp) q.fn.out,q.fn.buf.mono (t _ (by decide)),q.fn.new,l⟩,q.tb.mono (t _ (by decide)),q.db.ls (t _ (by decide)),b.mono (a.t _),q.bk.mono (t _ (by decide)),q.bn,q.sm.x x,q.nm⟩
theorem jb.gZl{nx':Int}(q:jb h0 h p mp od ol os fb fm fc b1 n1 c1 b2 n2 c2 b3 n3 c3 b4 n4 c4 b5 n5 c5 b6 n6 c6 bl ⟨d,n,o,s,f⟩)
 (e:h'=bH h p (.cells (List.toArray [.int .u32 od,.int .i32 ol,.int .u32 os,.slice fb fm fc,.slice b1 n1 c1,.slice b2 n2 c2,.slice b3 n3 c3,.slice b4 n4 c4,.int .i64 nx',.slice b5 n5 c5,.slice b6 n6 c6,.map (some mp)]) 149 (0,0))):
 jb h0 h' p mp od ol os fb fm fc b1 n1 c1 b2 n2 c2 b3 n3 c3 b4 n4 c4 b5 n5 c5 b6 n6 c6 bl ⟨d,nx',o,s,f⟩:=by
 have x:cY [149] h h':=by rw[e];exact gi q.fn.out (by decide)
 have k:Kp [p] h h':=by rw[e];exact Kp.set (by simp)
 have g:=(congrFun e p).trans ae;exact⟨⟨g,q.fn.buf.mono (x.t (by decide)),q.fn.new,q.fn.le.aE (bs:=[p]) (by simpa using q.fn.new) k⟩,q.tb.mono (x.t (by decide)),q.db.ls (x.t (by decide)),q.op.mono (x.t (by decide)),q.bk.mono (x.t (by decide)),q.bn,q.sm.x x,q.nm⟩
theorem gXy{Y:Int}{b:List Bs}(q:jb h0 h p mp od ol os fb fm fc b1 n1 c1 b2 n2 c2 b3 n3 c3 b4 n4 c4 b5 n5 c5 b6 n6 c6 bl ⟨d,Y,b,u,fo⟩)(vi:VI d)(Lm:∀x∈u,x.length=32)(ho:b.length<=2^20)(m:u.length<=2^20)
    {t S:Bs} {cl:Bool} {vb wb:Option Addr} {v vc wn wc:Nat} {g1 g2:Nat->Int}
 (qL:Sl 228 bW h0 (.slice vb v vc) L) (qR:Sl 104 iM h0 (.slice wb wn wc) rows) (de:v<=255) (dd:wn=v) (hC:∀c∈L,NV c) (uv:hl g1=aA t) (oz:t.length=32) (By:hl g2=aA S) (Jw:S.length=32)
  (l:Yt ⟨d,Y,b,u,fo⟩ ⟨id,L,rows,t,cl,S⟩=V) 
 (P:∀h' fb fm fc b5 n5 c5 b6 n6 c6 bl,jb h0 h' p mp od ol os fb fm fc b1 n1 c1 b2 n2 c2 b3 n3 c3 b4 n4 c4 b5 n5 c5 b6 n6 c6 bl V->k (.tuple #[]) h'):
 Ct 48 [.pointer (some ⟨p,0,none⟩),.agg (List.toArray (dQt id vb v vc wb wn wc g1 cl g2))] h k:=by
 obtain⟨A,hA⟩:=Ar.ex;have g:=q.fn.out;have yB:n5=b.length:=q.op.sl.len;have Bx:n6=u.length:=by rw[q.bk.sl.len,q.bn]
 have cK:=qL.len;have xV:=qR.len;have gz:aM (A .aC .add .i64 (A .nat n6) 1) (n6+1):=(aM.nat n6).succ (A:=A);obtain⟨a,yx⟩:∃a,a=A .aC .add .i64 (A .nat n6) 1:=⟨_,rfl⟩;rw[<-yx]at gz;have GG:a=((u.length+1:Nat):Int):=by rw[gz.eq,Bx]
 have f1:A .az .eql id Y=decide (id=Y):=aq A ..;have fW:A .aC .add .i64 id 1=IntKind.i64.wrap (id+1):=by rw[hA.aC];rfl
 obtain⟨s,Fe⟩:∃s,s=lW a id rows 0 (d.al,bT (decide (id=Y)) fo ⟨2,a,id,0⟩) L:=⟨_,rfl⟩;have l:V=if cl=true then lh ⟨ba d s.1,A .aC .add .i64 id 1,b++[eF id L],u,bT (decide (cl=decide ((b++[eF id L]).length=4))) (bT (decide (fN id L=t)) s.2 ⟨4,a,id,0⟩) ⟨2,a,0,0⟩⟩ S
  else⟨ba d s.1,A .aC .add .i64 id 1,b++[eF id L],u,bT (decide (cl=decide ((b++[eF id L]).length=4))) (bT (decide (fN id L=t)) s.2 ⟨4,a,id,0⟩) ⟨2,a,0,0⟩⟩:=by
  rw[<-l,fW,Fe,GG];rfl
 have aP:A .az .eql (A .nat (n5+1)) 4=decide ((b++[eF id L]).length=4):=by rw[aq A,hA.nat];refine decide_eq_decide.2 ?_;rw[dr,hJF];simp only[kH];omega
 have bB:fN id L=eO (dg id (L.take v)):=by rw[hO (by omega)];rfl
 have cn:∀c∈L,TO c:=λc U=>(hC c U).b;rw[bB]at l;clear bB fW gz;generalize decide ((b++[eF id L]).length=4)=full at *;refine dH fKK A Tryz.func48 ?_;cbv;repeat (first|rw[ao A] | (refine bc g ?_;cbv)|(refine⟨⟨_,rfl,rfl⟩,?_⟩;cbv))
 rw[<-yx,f1];generalize decide (id=Y)=t1 at *;refine vg q t1 ⟨2,a,id,0⟩ (λh1 fb fm fc x1 q1=>?_);have Ib:=q1.fn.out;generalize bT t1 fo ⟨2,a,id,0⟩=f0 at *;clear x1 q g f1;cbv;repeat rw[ao A]
 refine iB Ib (by show 9<=12;decide) (λh2 e2=>?_);have q2:=q1.gZl e2;obtain⟨H,QO⟩:∃H,H=A .aC .add .i64 id 1:=⟨_,rfl⟩;rw[<-QO]at q2 l;obtain⟨hL,WD,bn,oL⟩:=q2.hl;clear e2 Ib q1;obtain⟨J,aX⟩:∃J:Nat->(Int×(Option Addr×Nat×Nat))->ab->Prop,∀w g h',J w g h'=(∃i fb fm fc T f,aM g.1 i/\i<=v/\w=v-i/\jb h0 h' p mp od ol os fb fm fc b1 n1 c1 b2 n2 c2 b3 n3 c3 b4 n4 c4 b5 n5 c5 b6 n6 c6 bl ⟨ba d T,H,b,u,f⟩/\VI (ba d T)/\Le hL h'/\aT 104 iM hL h' (.slice g.2.1 g.2.2.1 g.2.2.2) (dg id (L.take i))/\s=lW a id rows i (T,f) (L.drop i)):=⟨_,λ_ _ _=>rfl⟩;have hJ:J v (0,none,0,0) h2:=by rw[aX];exact⟨0,fb,fm,fc,d.al,f0,⟨rfl⟩,by omega,by omega,q2,vi,bn,aT.nil,Fe⟩
 clear q2 bn Fe;cbv;refine aK.go (G:=Int×(Option Addr×Nat×Nat)) (λg=>[(42,.v (.int .i64 g.1)),(5,.v (.slice g.2.1 g.2.2.1 g.2.2.2))]) (λ_=>[(3,dQt id vb v vc wb wn wc g1 cl g2)]) (λw g h'=>J w g h') v (0,none,0,0) (by constructor<;>cbv) hJ ?_
 intro w g h3 hI;rw[aX]at hI;cbv;obtain⟨z,lb,W,lc⟩:=g;obtain⟨i,fb,fm,fc,T,f,F,hi,hw,q3,bg,bk,M,m⟩:=hI;have F:aM z i:=F;have M:aT 104 iM hL h3 (.slice lb W lc) (dg id (L.take i)):=M;have fz:A .az .lss z (A .nat v)=decide (i<v):=F.pL (aM.nat v);rw[fz];by_cases U:i<v
 .rw[aH U];obtain⟨c,hx⟩:=di L i;obtain⟨r,hr⟩:=di rows i;rw[zX hx hr]at m;rw[show((i:Nat):Int)=z from F.eq.symm]at m;have cL:W<=255:=by rw[M.sl.len];unfold dg;rw[List.length_mapIdx,dW];omega
  have ck:=(hC c (kF hx)).b;have GL:r.length=32:=DQ qR hr;have cb:=BF (id:=id) hx;have df:dy id i c=dy id i c:=rfl;obtain⟨E,C,I⟩:=c;have bF:∀h' fb fm fc lb W lc B f2,jb h0 h' p mp od ol os fb fm fc b1 n1 c1 b2 n2 c2 b3 n3 c3 b4 n4 c4 b5 n5 c5 b6 n6 c6 bl ⟨ba d B,H,b,u,f2⟩->VI (ba d B)->Le hL h'->aT 104 iM hL h' (.slice lb W lc) (dg id (L.take (i+1)))->s=lW a id rows (i+1) (B,f2) (L.drop (i+1))->J (v-(i+1)) (A .aC .add .i64 z 1,lb,W,lc) h':=λh' fb fm fc lb W lc B f2 a1 a2 a3 a4 a5=>by
   rw[aX];exact⟨i+1,fb,fm,fc,B,f2,F.succ (A:=A),U,rfl,a1,a2,a3,a4,a5⟩
  have aI:v-(i+1)<w:=by omega
  obtain⟨wi,vA⟩:∃wi,wi=v-(i+1):=⟨_,rfl⟩;rw[<-vA]at bF aI;have kZ:vb.isSome=true/\0<=z/\z<(v:Int):=⟨qL.aR,F.ix U⟩;have lJ:wb.isSome=true/\0<=z/\z<(wn:Int):=⟨qR.aR,F.ix (by omega)⟩;have dJ:=F.eq;have Q:=Ih bg ⟨E,C,I⟩;have m:s=lW a id rows (i+1) ((jz T ⟨E,C,I⟩).1,bT (jz T ⟨E,C,I⟩).2 (bT (decide (dy id i ⟨E,C,I⟩=r)) f ⟨3,a,id,z⟩) ⟨7,a,id,z⟩) (L.drop (i+1)):=m;obtain⟨⟨B,ok⟩,hD⟩:∃D,jz T ⟨E,C,I⟩=D:=⟨_,rfl⟩;rw[hD]at m;have Q:VI (ba d B):=by have e:jz (ba d T).al ⟨E,C,I⟩=(B,ok):=hD;rw[e]at Q;exact Q
  have tZ:(dy id i ⟨E,C,I⟩).length=32:=iW _;have O:=qL.mono (q3.fn.le.t _);have bx:=qR.mono (q3.fn.le.t _);clear aX hJ fz P l;cbv;refine⟨kZ,?_⟩;cbv;refine O.load hx dJ (λcs n=>?_);obtain⟨rb,rn,rc,n,qr⟩:=n;have n:cs=[.string E,.int .i64 C,.slice rb rn rc]:=n;subst n;cbv;refine aQi F qr ck (λh4 gh K aj=>?_);have q4:=q3.le K;have cE:=bk.trans K;have u4:=M.mono (K.t _);have KD:=qr.mono (K.t _);have br:=bx.mono (K.t _);generalize dy id i ⟨E,C,I⟩=rh at *;cbv;intro nn h5 oH e5;have l5:Le h4 h5:=by rw[e5];exact Le.set oH
  have qn:Sl 104 iM h5 (.slice (some ⟨nn,0,none⟩) 1 1) [rh]:=bC (s:=iM) (cs:=hl gh) ((congrFun e5 nn).trans ae) ⟨aj,tZ⟩;have R:=q4.le l5;have YH:=KD.mono (l5.t _);have cq:=br.mono (l5.t _);have u5:=u4.mono (l5.t _);have l0:=R.fn.le;clear e5;cbv;refine u5.app qn (by decide) rfl (by decide) (by omega) (cE.trans l5) (λm6 an ak h6 QU X t6 k6 u6=>?_);have x6:cY [104] h5 h6:=λbb o hb bm=>k6 bb o hb (.inr (.inr (λc fr e=>bm _ _ _ e (by decide))));have Z:=R.beside oL (WD.le.trans X) X t6 x6;have bG:=YH.mono (t6 _ (by decide));have cz:=qR.mono (Z.fn.le.t _);rw[<-cb]at u6;clear k6 u5 u4 M cq br bx YH KD qr;cbv;repeat (refine⟨⟨_,rfl,rfl⟩,?_⟩;cbv)
  refine⟨lJ,?_⟩;cbv;refine cz.load hr dJ (λcs n=>?_);obtain⟨n,-⟩:=n;obtain⟨gr,Oh⟩:=AH GL;rw[<-Oh]at n;subst n;cbv;refine yV aj Oh tZ GL ?_;generalize decide (rh=r)=t7 at *;cbv;refine vg Z t7 ⟨3,a,id,z⟩ (λh7 fb fm fc x7 j=>?_);have ch:=WD.jO X x7 (by decide) j.fn.le;have u7:=u6.mono (x7.t (by decide));have cy:=bG.mono (x7.t (by decide));generalize bT t7 f ⟨3,a,id,z⟩=f7 at *;cbv;refine Xp j bg cy hD (λh8 x8 q8=>?_);have cg:=WD.jO ch x8 (by decide) q8.fn.le;have u8:=u7.mono (x8.t (by decide));cbv;repeat (refine⟨⟨_,rfl,rfl⟩,?_⟩;cbv)
  refine vg q8 ok ⟨7,a,id,z⟩ (λh9 fb fm fc y q9=>?_);have cB:=WD.jO cg y (by decide) q9.fn.le;have u9:=u8.mono (y.t (by decide));have dt:=bF h9 fb fm fc an m6 ak B _ q9 Q cB u9 m;clear bF m;cbv;refine⟨wi,(A .aC .add .i64 z 1,an,m6,ak),aI,by constructor<;>cbv,dt⟩
 rw[ag U];have hi:i=v:=by omega
 subst hi;rw[wM (by omega)]at m;have m:s=(T,f):=m;rw[m]at l;have l:V=if cl=true then lh ⟨ba d T,H,b++[eF id L],u,bT (decide (cl=full)) (bT (decide (eO (dg id (L.take i))=t)) f ⟨4,a,id,0⟩) ⟨2,a,0,0⟩⟩ S
  else⟨ba d T,H,b++[eF id L],u,bT (decide (cl=full)) (bT (decide (eO (dg id (L.take i))=t)) f ⟨4,a,id,0⟩) ⟨2,a,0,0⟩⟩:=l
 have O:=qL.mono (q3.fn.le.t _);have bE:(eF id L).length=32:=iW _;have Er:=M.sl.len;clear aX hJ fz m;cbv;refine Tl _ M.sl (mr _) (λh4 gr K Oh tV=>?_);have q4:=q3.le K;have cw:=O.mono (K.t _);generalize eO (dg id (L.take i))=rt at *;cbv;refine yV Oh uv tV oz ?_;generalize decide (rt=t)=t5 at *;cbv;refine vg q4 t5 ⟨4,a,id,0⟩ (λh5 fb fm fc x5 R=>?_);generalize bT t5 f ⟨4,a,id,0⟩=f5 at *;have Ia:=R.fn.out;have cv:=qL.mono (R.fn.le.t _);clear q4 cw M bk x5;cbv;repeat (first|rw[ao A] | (refine bc Ia ?_;cbv)|(refine⟨⟨_,rfl,rfl⟩,?_⟩;cbv))
 refine aKQ cv cn (by omega) (λh6 ge l6 gW=>?_);have Z:=R.le l6;have RC:=Z.fn.out;generalize eF id L=en at *;cbv;repeat (first|rw[ao A] | (refine bc RC ?_;cbv)|(refine⟨⟨_,rfl,rfl⟩,?_⟩;cbv))
 intro nn h7 oH e7;have l7:Le h6 h7:=by rw[e7];exact Le.set oH
 have qn:Sl 104 iM h7 (.slice (some ⟨nn,0,none⟩) 1 1) [en]:=bC (s:=iM) (cs:=hl ge) ((congrFun e7 nn).trans ae) ⟨gW,bE⟩;have j:=Z.le l7;have Ln:=j.fn.out;have o7:aT 104 iM h0 h7 (.slice b5 n5 c5) b:=j.op;clear e7 R Z Ia RC;cbv;repeat (first|rw[ao A] | (refine bc Ln ?_;cbv)|(refine⟨⟨_,rfl,rfl⟩,?_⟩;cbv))
 refine o7.app qn (by decide) rfl (by decide) (by omega) j.fn.le (λm8 b8 c8 h8 ca l8 t8 k8 u8=>?_);have N:h8 p=_:=k8 _ _ Ln (.inr (.inr (λc fr e=>by cases e)));have bj:vV h8 mp u:=j.sm.x (ex:=[104]) (λbb o hb bm=>k8 bb o hb (.inr (.inr (λc fr e=>bm _ _ _ e (by decide)))));have aw:=j.fn.buf.mono (t8 _ (by decide));have bh:=j.tb.mono (t8 _ (by decide));have aW:=j.db.ls (t8 _ (by decide));have bd:=j.bk.mono (t8 _ (by decide));have cd:=j.bn;have gA:=j.fn.new;have yT:=j.nm;have aD:A .az .eql (A .nat m8) 4=full:=by rw[ca];exact aP
 have Ez:A .nR .eql cl full=decide (cl=full):=by rw[hA.nR];cases cl<;>cases full<;>rfl
 clear k8 j Ln o7 aP;cbv;repeat rw[ao A]
 refine iB N (by show 10<=12;decide) (λh9 e9=>?_);have WI:=(congrFun e9 p).trans ae;have y:cY [149] h8 h9:=by rw[e9];exact gi N (by decide)
 have k9:Kp [p] h8 h9:=by rw[e9];exact Kp.set (by simp)
 have q9:jb h0 h9 p mp od ol os fb fm fc b1 n1 c1 b2 n2 c2 b3 n3 c3 b4 n4 c4 b8 m8 c8 b6 n6 c6 bl ⟨ba d T,H,b++[en],u,f5⟩:=
  ⟨⟨WI,aw.mono (y.t (by decide)),gA,l8.aE (bs:=[p]) (by simpa using gA) k9⟩,bh.mono (y.t (by decide)),aW.ls (y.t (by decide)),u8.mono (y.t (by decide)),bd.mono (y.t (by decide)),cd,bj.x y,yT⟩
 have WI:=q9.fn.out;clear e9 N aw bh aW bd bj y k9 l8 t8 u8;cbv;repeat (first|rw[ao A] | (refine bc WI ?_;cbv)|(refine⟨⟨_,rfl,rfl⟩,?_⟩;cbv))
 rw[aD,Ez];generalize decide (cl=full)=t10 at *;refine vg q9 t10 ⟨2,a,0,0⟩ (λlI fb fm fc cI uX=>?_);generalize bT t10 f5 ⟨2,a,0,0⟩=f10 at *;have cx:(b++[en]).length<=2^30:=by rw[dr,hJF];omega
 have iX:u.length<=2^30:=by omega
 generalize b++[en]=ai at *;clear q9 WI aD Ez;cases cl with
 |false=>have l:V=⟨ba d T,H,ai,u,f10⟩:=l;rw[l]at P;have:=P lI fb fm fc _ _ _ _ _ _ _ uX;clear P;cbv;exact this
 |true=>have l:V=lh ⟨ba d T,H,ai,u,f10⟩ S:=l;rw[l]at P;cbv;refine Sn uX Lm cx iX By Jw (λyD fb fm fc b6 n6 c6 bl pK=>?_);have:=P yD fb fm fc _ _ _ _ _ _ _ pK;clear P;cbv;exact this
def Ye(h0 h:ab)(p mp:Nat)(od ol os:Int)(v:VS):Prop:=∃fb fm fc b1 n1 c1 b2 n2 c2 b3 n3 c3 b4 n4 c4 b5 n5 c5 b6 n6 c6 bl,jb h0 h p mp od ol os fb fm fc b1 n1 c1 b2 n2 c2 b3 n3 c3 b4 n4 c4 b5 n5 c5 b6 n6 c6 bl v
theorem jb.e{h0 h:ab}{p mp:Nat}{od ol os:Int}{fb:Option Addr}{fm fc:Nat}{b1 b2 b3 b4 b5 b6:Option Addr}{n1 c1 n2 c2 n3 c3 n4 c4 n5 c5 n6 c6:Nat}{bl:List Kf}{v:VS}(q:jb h0 h p mp od ol os fb fm fc b1 n1 c1 b2 n2 c2 b3 n3 c3 b4 n4 c4 b5 n5 c5 b6 n6 c6 bl v):Ye h0 h p mp od ol os v:=⟨fb,fm,fc,b1,n1,c1,b2,n2,c2,b3,n3,c3,b4,n4,c4,b5,n5,c5,b6,n6,c6,bl,q⟩
theorem Ye.elim{h0 h:ab}{p mp:Nat}{od ol os:Int}{v:VS}{P:Prop}(q:Ye h0 h p mp od ol os v)(k:∀fb fm fc b1 n1 c1 b2 n2 c2 b3 n3 c3 b4 n4 c4 b5 n5 c5 b6 n6 c6 bl,jb h0 h p mp od ol os fb fm fc b1 n1 c1 b2 n2 c2 b3 n3 c3 b4 n4 c4 b5 n5 c5 b6 n6 c6 bl v->P):P:=by obtain⟨fb,fm,fc,b1,n1,c1,b2,n2,c2,b3,n3,c3,b4,n4,c4,b5,n5,c5,b6,n6,c6,bl,q⟩:=q;exact k _ _ _ _ _ _ _ _ _ _ _ _ _ _ _ _ _ _ _ _ _ _ q
theorem jb.once{h0 h h':ab}{p mp:Nat}{od ol os od' ol' os':Int}{fb:Option Addr}{fm fc:Nat}{b1 b2 b3 b4 b5 b6:Option Addr}{n1 c1 n2 c2 n3 c3 n4 c4 n5 c5 n6 c6:Nat}{bl:List Kf}(q:jb h0 h p mp od ol os fb fm fc b1 n1 c1 b2 n2 c2 b3 n3 c3 b4 n4 c4 b5 n5 c5 b6 n6 c6 bl ⟨d,n,o,s,f⟩)
 (e:h'=bH h p (.cells (List.toArray [.int .u32 od',.int .i32 ol',.int .u32 os',.slice fb fm fc,.slice b1 n1 c1,.slice b2 n2 c2,.slice b3 n3 c3,.slice b4 n4 c4,.int .i64 n,.slice b5 n5 c5,.slice b6 n6 c6,.map (some mp)]) 149 (0,0))):
 jb h0 h' p mp od' ol' os' fb fm fc b1 n1 c1 b2 n2 c2 b3 n3 c3 b4 n4 c4 b5 n5 c5 b6 n6 c6 bl ⟨d,n,o,s,f⟩:=by
 have x:cY [149] h h':=by rw[e];exact gi q.fn.out (by decide)
 have k:Kp [p] h h':=by rw[e];exact Kp.set (by simp)
 have g:=(congrFun e p).trans ae;exact⟨⟨g,q.fn.buf.mono (x.t (by decide)),q.fn.new,q.fn.le.aE (bs:=[p]) (by simpa using q.fn.new) k⟩,q.tb.mono (x.t (by decide)),q.db.ls (x.t (by decide)),q.op.mono (x.t (by decide)),q.bk.mono (x.t (by decide)),q.bn,q.sm.x x,q.nm⟩
theorem OK{h0 h:ab}{p mp a kp:Nat}{od ol os:Int}{fb:Option Addr}{fm fc:Nat}{b1 b2 b3 b4 b5 b6:Option Addr}{n1 c1 n2 c2 n3 c3 n4 c4 n5 c5 n6 c6:Nat}{bl:List Kf}(q:jb h0 h p mp od ol os fb fm fc b1 n1 c1 b2 n2 c2 b3 n3 c3 b4 n4 c4 b5 n5 c5 b6 n6 c6 bl ⟨d,n,o,s,f⟩)
 (g:h a=some (.cells #[.pointer (some ⟨p,0,none⟩)] 138 (0,0)))  (c:h kp=some (.cells #[.int .i64 z] 3 (0,0))) 
 (b:∀h' fb fm fc,jb h0 h' p mp od ol os fb fm fc b1 n1 c1 b2 n2 c2 b3 n3 c3 b4 n4 c4 b5 n5 c5 b6 n6 c6 bl ⟨d,n,o,s,iS f ⟨1,0,0,z⟩⟩->k (.tuple #[]) h'):
 Ct 44 [.pointer (some ⟨a,0,none⟩),.pointer (some ⟨kp,0,none⟩)] h k:=by
 refine cp fKO Tryz.func44 λA j=>?_;cbv;refine bc g ?_;cbv;refine bc c ?_;cbv;refine Pa q ⟨1,0,0,z⟩ (λe fb fm fc x i=>?_);have:=b e fb fm fc i;clear b;cbv;exact this
theorem bZp{h0 h:ab}{p mp a kp:Nat}{fb:Option Addr}{fm fc:Nat}{b1 b2 b3 b4 b5 b6:Option Addr}{n1 c1 n2 c2 n3 c3 n4 c4 n5 c5 n6 c6:Nat}{bl:List Kf}{c:List Bs}{b:List Fd}(q:jb h0 h p mp 0 0 0 fb fm fc b1 n1 c1 b2 n2 c2 b3 n3 c3 b4 n4 c4 b5 n5 c5 b6 n6 c6 bl ⟨d,n,c,s,b⟩)
 (l:h0 a=some (.cells #[.pointer (some ⟨p,0,none⟩)] 138 (0,0)))  (g:h kp=some (.cells #[.int .i64 z] 3 (0,0))) 
 (r:∀h' fb fm fc,jb h0 h' p mp 1 0 0 fb fm fc b1 n1 c1 b2 n2 c2 b3 n3 c3 b4 n4 c4 b5 n5 c5 b6 n6 c6 bl ⟨d,n,c,s,iS b ⟨1,0,0,z⟩⟩->k (.tuple #[]) h'):
 Ct 43 [.pointer (some ⟨p,0,none⟩),.func (.func 44) #[] #[.pointer (some ⟨a,0,none⟩),.pointer (some ⟨kp,0,none⟩)]] h k:=by
 refine cQS (f:=44) (fl:=[]) (cl:=[.pointer (some ⟨a,0,none⟩),.pointer (some ⟨kp,0,none⟩)]) q.fn.out (o:=0) rfl rfl (λm e1=>?_);have i:=q.once (od':=0) (ol':=1) (os':=0) e1;have Q:m kp=some (.cells #[.int .i64 z] 3 (0,0)):=by rw[e1,bU (λe=>by rw[e,q.fn.out]at g;cases g)];exact g
 refine OK i (i.fn.le _ _ l) Q (λt fb fm fc j=>?_);refine⟨rfl,_,j.fn.out,rfl,rfl,?_⟩;exact r _ fb fm fc (j.once rfl)
end Go.S
