import Derived.Test.YthnbpiejemlbeaaGreatEA
set_option linter.all false
set_option maxRecDepth 100000
namespace Go.S
open Go.Sx Go.Proofs
variable {A:Ar}{only:Bool}{nm:ByteArray}{a e key:Int}{E:List (Int×Int)}{xs:List (eY×Bool)}{o r:List Row}{cs:List Value}{H:List bU}{B:List jF}{c cap i j m n:Nat}{b:Option Addr}{d:TypeDesc}{k:Value->ad->Prop}{h h' h0:ad}{hd:bU}{w:eY×Bool}{kv:jd}
def iW(w:bU)(H:List bU):List (Int×Int):=(H.filter (eo w)).map λh=>(w.s,h.s)
def cQ(H W:List bU):List (Int×Int):=W.flatMap λw=>iW w H
def da(E:List (Int×Int))(a:Int):List Int:=(E.filter λp=>decide (p.1=a)).map (·.2)
theorem wU{b:Int}:da (E++[(a,b)]) a=da E a++[b]:=by simp[da]
theorem nL{b c:Int}(h:c≠a):da (E++[(a,b)]) c=da E c:=by simp[da,Ne.symm h]
theorem KJ(E:List (Int×Int))(a:Int):(da E a).length<=E.length:=by unfold da;rw[vi];exact jKe _ _
structure cKu where
 a:Int
 nb:Nat
 cap:Nat
structure Rg(h0 h:ad)(m:Nat)(E:List (Int×Int)):Prop where
 out:∃G:List cKu,Mp h m (.int .i64) (G.map λg=>(.int .i64 g.a,.slice (some ⟨g.nb,0,none⟩) (da E g.a).length g.cap))/\(G.map (·.nb)).Nodup/\(∀g∈G,h0 g.nb=none/\cZ 3 dD h g.nb g.cap (da E g.a))/\∀a,da E a≠[]->∃g∈G,g.a=a
theorem KB:Tryz.prog.underlying 502=some (.map 3 68):=by kernel_rfl
theorem aXm:Tryz.prog.underlying 470=some (.map 3 4):=by kernel_rfl
theorem u3:Tryz.prog.underlying 3=some (.int .i64):=by kernel_rfl
theorem Nw(w:World):(zeroValue 68).run Tryz.prog w=.ok (.slice none 0 0) w:=by
 have h:((Tryz.prog.info? 68).bind (·.zero))=some (.slice none 0 0):=by kernel_rfl
 cases a:Tryz.prog.info? 68 with
 |none=>rw[a]at h;cases h
 |some i=>rw[a]at h;simp at h;simp[zeroValue,typeInfo,a,h]
theorem Rg.kp(q:Rg h0 h m E){bs:List Nat}(k:Kp bs h h')(j:m∉bs)(i:∀b∈bs,h0 b≠none):Rg h0 h' m E:=by obtain⟨G,d,e,a,f⟩:=q.out;exact⟨G,d.kp k j,e,λg c=>⟨(a g c).1,(a g c).2.kp k (λhx=>i _ hx (a g c).1) (λ_ _ _ _ hx=>by cases hx)⟩,f⟩
def jL(h:ad)(n:Nat):ad:=λb=>if b=n then none else h b
theorem tZ(h:ad)(n:Nat):Le (jL h n) h:=λb o q=>by
 unfold jL at q;split at q
 .cases q
 exact q
theorem nV(h:ad)(n:Nat):jL h n n=none:=by unfold jL;rw[if_pos rfl]
theorem Jz(l:Le (jL h n) h'):Kp [n] h h':=λb o q a=>l b o (by unfold jL;rw[if_neg (by simpa using a)];exact q)
theorem Ic{b:Nat}(q:jL h n b=none):b=n\/h b=none:=by
 unfold jL at q;split at q
 .rename_i e;exact .inl e
 exact .inr q
structure Tk(h0 h:ad)(m:Nat)(E:List (Int×Int))(a:Int)(v:Value):Prop where
 out:∃hb,Le h0 hb/\Le hb h/\bt 3 dD hb h v (da E a)/\
  ∀h' v' x,Le hb h'->bt 3 dD hb h' v' (da E a++[x])->∀k:Value->ad->Prop,(∀sO,Rg h0 sO m (E++[(a,x)])->Kp [m] h' sO->(∀tys,cO tys h' sO)->k undef sO)->
   fw (λ_=>Tryz.prog) (λ_=>do Instr.mapUpdate 502 (.map (some m)) (.int .i64 a) v';pure undef) h' k
theorem Lr{e:Nat}{l:List (Value×Value)}{b:Type}{s:Sh b}{xs:List b}(q:Mp h m d l)(o:cZ e s h n cap xs):n≠m:=λf=>by
 obtain⟨i,k,g,-⟩:=q.out;obtain⟨c,a,-⟩:=o.out;rw[f,g]at a;cases a
theorem Rg.tk(q:Rg h0 h m E)(N:Le h0 h)(DR:h0 m=none)(a:Int)(hk:∀b n c,Tk h0 h m E a (.slice b n c)->k (.slice b n c) h):
 fw (λ_=>Tryz.prog) (λ_=>Instr.lookup 502 (.map (some m)) (.int .i64 a) false) h k:=by
 obtain⟨G,D,g2,v,g4⟩:=q.out;have Jv:=D.XA;by_cases I:∃g∈G,g.a=a
 .obtain⟨g,l,rfl⟩:=I;obtain⟨i,hi⟩:=rK l;obtain⟨w,Z⟩:=ff.1 hi;refine Ak KB u3 D (key:=.int .i64 g.a) rfl (xz.2 ⟨g,l,rfl⟩) (hk _ _ _ ⟨jL h g.nb,?_,tZ h g.nb,?_,?_⟩)
  .intro b o hb;have S:b≠g.nb:=λe=>by rw[e,(v g l).1]at hb;cases hb
   unfold jL;rw[if_neg S];exact N b o hb
  .exact(v g l).2.buf (nV h g.nb) rfl
  intro h' v' x M T k' O;have S:g.nb≠m:=Lr D (v g l).2;have kp:=Jz M;have V:Mp h' m (.int .i64) _:=D.kp kp (by simpa using Ne.symm S);rcases T.out with⟨b0,e1,u⟩|⟨t,cap,e1,u,o⟩
  .have:=congrArg List.length u;simp at this
  subst e1;have fC:(G.map λg=>(Value.int .i64 g.a,Value.slice (some ⟨g.nb,0,none⟩) (da E g.a).length g.cap))[i]? =some (.int .i64 g.a,.slice (some ⟨g.nb,0,none⟩) (da E g.a).length g.cap):=by rw[kS,hi];rfl
  have K:∀j (d:cKu),G[j]? =some d->j≠i->d.a≠g.a/\d.nb≠g.nb:=λj d f A=>by
   obtain⟨Q,R⟩:=ff.1 f;constructor
   .intro s;have p:=wL.1 Jv;rcases kQT A with U|U
    .have:=p j i (by simpa using Q) (by simpa using w) U;simp[R,Z,s]at this
    have:=p i j (by simpa using w) (by simpa using Q) U;simp[R,Z,s]at this
   intro s;have p:=wL.1 g2;rcases kQT A with U|U
   .have:=p j i (by simpa using Q) (by simpa using w) U;simp[R,Z,s]at this
   have:=p i j (by simpa using w) (by simpa using Q) U;simp[R,Z,s]at this
  refine aXH KB u3 V (key:=.int .i64 g.a) rfl fC (λsO P B C=>O sO ⟨G.set i ⟨g.a,t,cap⟩,?_,?_,?_,?_⟩ B C)
  .have:(G.set i ⟨g.a,t,cap⟩).map (λ(d:cKu)=>(Value.int .i64 d.a,Value.slice (some ⟨d.nb,0,none⟩) (da (E++[(g.a,x)]) d.a).length d.cap))=
    (G.map λg=>(Value.int .i64 g.a,Value.slice (some ⟨g.nb,0,none⟩) (da E g.a).length g.cap)).set i (.int .i64 g.a,.slice (zsA t) (da E g.a++[x]).length cap):=by
    apply yr;intro j;rw[kS,VS,VS,vi,kS];by_cases A:i=j
    .subst A;rw[if_pos rfl,if_pos rfl,if_pos w];simp[wU,w]
    rw[if_neg A,if_neg A];cases f:G[j]? with
    |none=>rfl
    |some d=>simp[nL (K j d f (Ne.symm A)).1]
   rw[this];exact P
  .rw[jKI];refine wL.2 (λp r z H X=>?_);have wo:∀j (d:cKu),G[j]? =some d->j≠i->d.nb≠t:=λj d f A e=>by
    rcases Ic u with y|y
    .exact(K j d f A).2 (e.trans y)
    exact(v d (cK f)).2.has (by rw[e];exact y)
   simp only[nM,vi]at z H;rw[kQB,kQB];by_cases h1:i=p
   .subst h1;rw[if_pos rfl,if_neg (by omega),jKY];exact Ne.symm (wo r G[r] (by simp[H]) (by omega))
   rw[if_neg h1];by_cases h2:i=r
   .subst h2;rw[if_pos rfl,jKY];exact wo p G[p] (by simp[z]) (by omega)
   rw[if_neg h2];exact wL.1 g2 p r (by simpa using z) (by simpa using H) X
  .intro d F;obtain⟨j,f⟩:=rK F;rw[VS]at f;by_cases A:i=j
   .subst A;rw[if_pos rfl,if_pos w]at f;cases f;refine⟨?_,?_⟩
    .rcases Ic u with y|y
     .rw[y];exact(v g l).1
     exact N.none y
    rw[wU];exact o.kp B (by simpa using Lr V o) (C _)
   rw[if_neg A]at f;obtain⟨f1,f2⟩:=K j d f (Ne.symm A);obtain⟨Y,f4⟩:=v d (cK f);have o':=f4.kp kp (by simpa using f2) (λ_ _ _ _ hx=>by cases hx);refine⟨Y,?_⟩;rw[nL f1];exact o'.kp B (by simpa using Lr V o') (C _)
  intro c L;by_cases J:c=g.a
  .exact⟨⟨g.a,t,cap⟩,cK (i:=i) (by rw[VS,if_pos rfl,if_pos w]),J.symm⟩
  rw[nL J]at L;obtain⟨d,F,s⟩:=g4 c L;obtain⟨j,f⟩:=rK F;have A:i≠j:=λe=>by subst e;rw[hi]at f;cases f;exact J s.symm
  exact⟨d,cK (i:=j) (by rw[VS,if_neg A];exact f),s⟩
 have W:da E a=[]:=Classical.byContradiction λS=>I (g4 a S);have Tj:∀p∈(G.map λg=>(Value.int .i64 g.a,Value.slice (some ⟨g.nb,0,none⟩) (da E g.a).length g.cap)),p.1≠.int .i64 a:=λp z e=>by
  obtain⟨g,l,rfl⟩:=xz.1 z;simp at e;exact I ⟨g,l,e⟩
 refine vD KB u3 Nw D (key:=.int .i64 a) rfl Tj (hk _ _ _ ⟨h,N,Le.refl _,by rw[W];exact bt.nil,?_⟩);intro h' v' x M T k' O;have V:=D.kp (M.kp []) (by simp);rcases T.out with⟨b0,e1,u⟩|⟨t,cap,e1,u,o⟩
 .have:=congrArg List.length u;simp at this
 subst e1;refine IW KB u3 V (key:=.int .i64 a) rfl Tj (λsO P B C=>O sO ⟨G++[⟨a,t,cap⟩],?_,?_,?_,?_⟩ B C)
 .have:(G++[(⟨a,t,cap⟩:cKu)]).map (λ(d:cKu)=>(Value.int .i64 d.a,Value.slice (some ⟨d.nb,0,none⟩) (da (E++[(a,x)]) d.a).length d.cap))=
   (G.map λg=>(Value.int .i64 g.a,Value.slice (some ⟨g.nb,0,none⟩) (da E g.a).length g.cap))++[(.int .i64 a,.slice (zsA t) (da E a++[x]).length cap)]:=by
   rw[jKH];congr 1
   .refine jKZ (λg l=>?_);rw[nL (λe=>I ⟨g,l,e⟩)]
   simp[wU]
  rw[this];exact P
 .rw[jKH];refine List.nodup_append.2 ⟨g2,by simp,?_⟩;intro p z r H e;simp at H;obtain⟨g,l,rfl⟩:=xz.1 z;exact(v g l).2.has (by rw[e,H];exact u)
 .intro d F;rcases wy.1 F with F|F
  .obtain⟨Y,f4⟩:=v d F;have o':=f4.mono (M.t _);refine⟨Y,?_⟩;rw[nL (λe=>I ⟨d,F,e⟩)];exact o'.kp B (by simpa using Lr V o') (C _)
  simp at F;subst F;refine⟨N.none u,?_⟩;rw[wU];exact o.kp B (by simpa using Lr V o) (C _)
 intro c L;by_cases J:c=a
 .exact⟨⟨a,t,cap⟩,by simp,J.symm⟩
 rw[nL J]at L;obtain⟨d,F,s⟩:=g4 c L;exact⟨d,by simp[F],s⟩
theorem Ph{W:List bU}{w:bU}(h:W[i]? =some w):cQ H (W.take (i+1))=cQ H (W.take i)++iW w H:=by unfold cQ;rw[qM,h];simp
theorem Pj{w o:bU}(h:H[j]? =some o)(a:eo w o=true):iW w (H.take (j+1))=iW w (H.take j)++[(w.s,o.s)]:=by unfold iW;rw[qM,h,jKC];simp[a]
theorem Mt{w o:bU}(h:H[j]? =some o)(a:eo w o=false):iW w (H.take (j+1))=iW w (H.take j):=by unfold iW;rw[qM,h,jKC];simp[a]
theorem FZ(w:bU)(H:List bU):(iW w H).length<=H.length:=by unfold iW;rw[vi];exact jKe _ _
theorem Cu(H W:List bU):(cQ H W).length<=W.length*H.length:=by
 induction W with
 |nil=>simp[cQ]
 |cons w r i=>
  have:cQ H (w::r)=iW w H++cQ H r:=by simp[cQ]
  rw[this,cy,wS,jKi];have:=FZ w H;omega
theorem BL{a b:Nat}(h:a<=2^18)(c:b<=2^18):a*b<=2^36:=by
 have:=kQH h c;have e:(2:Nat)^18*2^18=2^36:=by decide
 omega
theorem WH{W:List bU}{I K:Option Addr}{L g O:Nat}(q1:Sl 253 bu h (.slice I n L) H)(q2:Sl 253 bu h (.slice K g O) W)(fh:n<=2^18)(eU:g<=2^18):
 Ct 321 [.agg #[.slice I n L,.slice K g O]] h (λv h'=>Le h h'/\∃r m,v=.zP r/\h r=none/\h m=none/\h' r=some (.cells #[.map (some m),.int .i64 0] 504 (0,0))/\Rg h h' m (cQ H W)):=by
 have nE:=q1.len;have lq:=q2.len;have hE:∀i,(cQ H (W.take i)).length<=2^36:=λi=>by
  have:=Cu H (W.take i);have P:(W.take i).length<=2^18:=by rw[eA];omega
  have:=BL P (show H.length<=2^18 by omega);omega
 refine cg eQd Tryz.func321 λA hA=>?_;cbv;intro m h1 y e1;have l1:Le h h1:=by rw[e1];exact Le.set y
 have g1:=(congrFun e1 m).trans ae;cbv;intro r P Kc e2;have l2:Le h1 P:=by rw[e2];exact Le.set Kc
 have gr:=(congrFun e2 r).trans ae;have gm:=l2 _ _ g1;have Jo:=l1.trans l2;have T:Rg h P m (cQ H (W.take 0)):=⟨[],Mp.new gm,by simp,by simp,λa ha=>absurd rfl ha⟩;cbv;refine aX.go (G:=Int) (λz=>[(14,.v (.int .i64 z))]) (λ_=>[(1,[.slice I n L,.slice K g O])])
  (λk z h'=>∃i:Nat,aZ z i/\k=g-i/\i<=g/\Le h h'/\h' r=some (.cells #[.map (some m),.int .i64 0] 504 (0,0))/\Rg h h' m (cQ H (W.take i))) g 0 ⟨?_,?_,?_⟩ ⟨0,⟨rfl⟩,by omega,by omega,Jo,gr,T⟩ ?_
 .cbv
 .cbv
 .cbv
 intro k z h' hI;cbv;obtain⟨i,D,hk,hi,q,Va,rg⟩:=hI;refine ba (λe=>?_) (λe=>?_)
 .have aU:=D.lt e;clear e;cbv;obtain⟨w,hw⟩:=cB W i;refine⟨⟨q2.bp,D.ix aU⟩,?_⟩;cbv;refine(q2.mono (q.t _)).load hw D.eq (λcs l=>?_);have l:cs=[.int .i64 w.s,.string w.table,.bool w.x]:=l;subst l;have Z:=Ph (H:=H) hw;have ab:=hE (i+1);rw[Z]at ab;have T:Rg h h' m (cQ H (W.take i)++iW w (H.take 0)):=by simpa[iW]using rg
  cbv;refine aX.go (G:=Int) (λz=>[(21,.v (.int .i64 z))]) (λ_=>[(5,[.int .i64 w.s,.string w.table,.bool w.x]),(1,[.slice I n L,.slice K g O])])
   (λk z h'=>∃j:Nat,aZ z j/\k=n-j/\j<=n/\Le h h'/\h' r=some (.cells #[.map (some m),.int .i64 0] 504 (0,0))/\Rg h h' m (cQ H (W.take i)++iW w (H.take j))) n 0 ⟨?_,?_,?_⟩ ⟨0,⟨rfl⟩,by omega,by omega,q,Va,T⟩ ?_
  .cbv
  .cbv
  .cbv
  intro k2 z2 h3 hI;cbv;obtain⟨j,N,rY,hj,V,UY,p⟩:=hI;refine ba (λe=>?_) (λe=>?_)
  .have tY:=N.lt e;clear e;cbv;obtain⟨o,ho⟩:=cB H j;refine⟨⟨q1.bp,N.ix tY⟩,?_⟩;cbv;refine(q1.mono (V.t _)).load ho N.eq (λcs l=>?_);have l:cs=[.int .i64 o.s,.string o.table,.bool o.x]:=l;subst l;cbv;refine(Gs (a:=w) (b:=o)).mono (λv h4 hR=>?_);obtain⟨l4,t,rfl,et⟩:=hR;have B:=l4 _ _ UY;have Q:=p.kp (l4.kp []) (by simp) (by simp);have U:=V.trans l4;cases t with
   |true=>
    have f:=Pj ho et.symm;have ag:(cQ H (W.take i)++iW w (H.take j)).length<=2^38:=by have:=FZ w (H.take j);have R:=hE i;rw[eA]at this;rw[cy];omega
    cbv;rw[av A];refine cr B ?_;cbv;rw[av A];refine cr B ?_;cbv;refine⟨?_,?_⟩
    .refine Q.tk U y w.s (λbb nn cc tk=>?_);obtain⟨hb,t1,t2,F,t4⟩:=tk.out;have rW:nn<=2^38:=by have:=F.sl.len;have:=KJ (cQ H (W.take i)++iW w (H.take j)) w.s;omega
     cbv;refine cr B ?_;cbv;refine⟨⟨_,rfl,rfl⟩,?_⟩;cbv;intro S R vW C;have u:Le h4 R:=by rw[C];exact Le.set vW
     have g5:=(congrFun C S).trans ae;have M:=u _ _ B;cbv;refine cr M ?_;cbv;refine⟨⟨_,rfl,rfl⟩,?_⟩;cbv;refine(F.mono (u.t _)).append (bf (s:=dD) g5 (x:=o.s) rfl) (by decide) rfl (by decide) (by omega) (t2.trans u) (λmm b' c' h6 Dq E t6 k6 X=>?_);have c:=t6 [504] (by decide) _ _ _ _ (by decide) M;cbv;refine cr c ?_;cbv;refine⟨⟨_,rfl,rfl⟩,?_⟩;cbv;refine t4 h6 _ o.s E X _ (λh7 d k7 t7=>?_);have l7:Le h h7:=(t1.trans E).aV (by simpa using y) k7;have J:=t7 [504] _ _ _ _ (by decide) c;rw[ym,<-f]at d;cbv;refine⟨n-(j+1),_,by omega,by constructor<;>cbv,j+1,N.succ (A:=A),rfl,by omega,l7,J,d⟩
    intro S R vW C;have u:Le h4 R:=by rw[C];exact Le.set vW
    have g5:=(congrFun C S).trans ae;have M:=u _ _ B;have Y:=Q.kp (u.kp []) (by simp) (by simp);cbv;refine cr M ?_;cbv;refine⟨⟨_,rfl,rfl⟩,?_⟩;cbv;refine cr M ?_;cbv;refine⟨⟨_,rfl,rfl⟩,?_⟩;cbv;refine Y.tk (U.trans u) y w.s (λbb nn cc tk=>?_);obtain⟨hb,t1,t2,F,t4⟩:=tk.out;have rW:nn<=2^38:=by have:=F.sl.len;have:=KJ (cQ H (W.take i)++iW w (H.take j)) w.s;omega
    cbv;refine cr M ?_;cbv;refine⟨⟨_,rfl,rfl⟩,?_⟩;cbv;refine(F).append (bf (s:=dD) g5 (x:=o.s) rfl) (by decide) rfl (by decide) (by omega) t2 (λmm b' c' h6 Dq E t6 k6 X=>?_);have c:=t6 [504] (by decide) _ _ _ _ (by decide) M;cbv;refine cr c ?_;cbv;refine⟨⟨_,rfl,rfl⟩,?_⟩;cbv;refine t4 h6 _ o.s E X _ (λh7 d k7 t7=>?_);have l7:Le h h7:=(t1.trans E).aV (by simpa using y) k7;have J:=t7 [504] _ _ _ _ (by decide) c;rw[ym,<-f]at d;cbv;refine⟨n-(j+1),_,by omega,by constructor<;>cbv,j+1,N.succ (A:=A),rfl,by omega,l7,J,d⟩
   |false=>
    have f:=Mt ho et.symm;cbv;refine⟨n-(j+1),_,by omega,by constructor<;>cbv,j+1,N.succ (A:=A),rfl,by omega,U,B,?_⟩
    rw[f];exact Q
  have lJ:=N.ge e;rw[show H.take j=H from ie (by omega),<-Z]at p;cbv;refine⟨g-(i+1),_,by omega,by constructor<;>cbv,i+1,D.succ (A:=A),rfl,by omega,V,UY,p⟩
 have lJ:=D.ge e;rw[ie (by omega)]at rg;cbv;exact⟨q,r,m,rfl,l1.none Kc,y,Va,rg⟩
def dN(st:List Int×List Int)(k:Int):List Int×List Int:=if decide (k∈st.1)=true then st else(st.1++[k],st.2++[k])
def aKr(E:List (Int×Int)):Nat->List Int×List Int->List Int
 |0,st=>st.1
 |n+1,st=>match st.2 with
  | []=>st.1
  |a::r=>aKr E n ((da E a).foldl dN (st.1,r))
def over(E:List (Int×Int))(s:Int):List Int:=aKr E (E.length+2) ([],[s])
def As(E:List (Int×Int))(seen:List Int):Nat:=(E.filter λp=> !decide (p.2∈seen)).length
theorem Lj(s:List Int)(y:Int):∀L:List (Int×Int),As L (s++[y])<=As L s
 | []=>kB _
 |e::r=>by
  have i:=Lj s y r;unfold As at i |-;by_cases a:e.2∈s
  .have h:e.2∈s++[y]:=by simp[a]
   rw[jKB (by rw[ak h];simp),jKB (by rw[ak a];simp)];exact i
  rw[jKV (p:=λp:Int×Int=> !decide (p.2∈s)) (by rw[bn a];simp)];by_cases h:e.2∈s++[y]
  .rw[jKB (by rw[ak h];simp),wS];omega
  rw[jKV (by rw[bn h];simp),wS,wS];omega
theorem Xc(s:List Int)(x y:Int)(k:y∉s):∀L:List (Int×Int),(x,y)∈L->As L (s++[y])+1<=As L s
 | [],h=>by cases h
 |e::r,h=>by
  by_cases c:e=(x,y)
  .subst c;have g:=Lj s y r;unfold As at g |-;rw[jKB (by simp),jKV (p:=λp:Int×Int=> !decide (p.2∈s)) (by simpa using k),wS];omega
  have d:(x,y)∈r:=by
   rcases xl.1 h with h|h
   .exact absurd h.symm c
   exact h
  have i:=Xc s x y k r d;unfold As at i |-;by_cases b:e.2∈s
  .have a:e.2∈s++[y]:=by simp[b]
   rw[jKB (by rw[ak a];simp),jKB (by rw[ak b];simp)];exact i
  rw[jKV (p:=λp:Int×Int=> !decide (p.2∈s)) (by rw[bn b];simp)];by_cases a:e.2∈s++[y]
  .rw[jKB (by rw[ak a];simp),wS];omega
  rw[jKV (by rw[bn a];simp),wS,wS];omega
theorem Qn{s:List Int}{k:Int}(b:k∉s)(h:k∈da E a):As E (s++[k])+1<=As E s:=by unfold da at h;obtain⟨⟨x,y⟩,m,rfl⟩:=xz.1 h;exact Xc s x y b E (jKn.1 m).1
theorem cXK:jr Tryz.prog 332 Tryz.f332:=⟨Tryz.func332,by kernel_rfl,by kernel_rfl,by kernel_rfl⟩
theorem cZj{b o:Nat}{x:Int}(q:oh h ⟨b,o,none⟩ (.int .i64 x)):Ct 253 [.pointer (some ⟨b,o,none⟩),.int .i64 1] h (λv h'=>∃z y,v=.int .i64 z/\Up h b o (.int .i64 y) h'):=by refine cg aKI Tryz.func253 λA f=>?_;cbv;rw[av A];refine JH cXK (by kernel_rfl) q (λc e d e1 a=>?_);have u:Up h b o (.int .i64 _) d:=⟨c,e,e1,a⟩;generalize IntKind.i64.wrap (x+1)=y at *;cbv;exact⟨_,y,rfl,u⟩
theorem Rg.dQU{r:Nat}(q:Rg h0 h m E)(t:h r=zcL 504 cs)(kp:Kp [r] h h')(a:Int)(j:∀b n c,Sl 3 dD h (.slice b n c) (da E a)->k (.slice b n c) h'):
 fw (λ_=>Tryz.prog) (λ_=>Instr.lookup 502 (.map (some m)) (.int .i64 a) false) h' k:=by
 obtain⟨G,i,x,o,s⟩:=q.out;have u:m∉[r]:=by intro e;simp at e;obtain⟨w,l,g,-⟩:=i.out;rw[e,t]at g;cases g
 have V:=i.kp kp u;by_cases f:∃g∈G,g.a=a
 .obtain⟨g,d,rfl⟩:=f;exact Ak KB u3 V (key:=.int .i64 g.a) rfl (xz.2 ⟨g,d,rfl⟩) (j _ _ _ ((o g d).2.sl rfl))
 refine vD KB u3 Nw V (key:=.int .i64 a) rfl (λp v e=>?_) (j _ _ _ ?_)
 .obtain⟨g,d,rfl⟩:=xz.1 v;simp at e;exact f ⟨g,d,e⟩
 have:da E a=[]:=Classical.byContradiction λS=>f (s a S);rw[this];exact Sl.nil
abbrev BN(l:List Int):List (Value×Value):=l.map λk=>(.int .i64 k,.bool true)
theorem KS{l:List Int}{k:Int}:(Value.int .i64 k,Value.bool true)∈BN l↔k∈l:=by simp[BN]
theorem Jj{l:List Int}(q:Mp h m (.int .i64) (BN l))(a:Int)(c:∀t,t=decide (a∈l)->k (.bool t) h):
 fw (λ_=>Tryz.prog) (λ_=>Instr.lookup 470 (.map (some m)) (.int .i64 a) false) h k:=by
 by_cases b:a∈l
 .exact Ak aXm u3 q (key:=.int .i64 a) rfl (KS.2 b) (c true (by simp[b]))
 refine vD aXm u3 bQz q (key:=.int .i64 a) rfl (λp d e=>?_) (c false (by simp[b]));obtain⟨k,c,rfl⟩:=xz.1 d;simp at e;exact b (e ▸ c)
theorem bJx{l:List Int}(q:Mp h m (.int .i64) (BN l))(b:a∉l)(K:∀h',Mp h' m (.int .i64) (BN (l++[a]))->Kp [m] h h'->(∀tys,cO tys h h')->k undef h'):
 fw (λ_=>Tryz.prog) (λ_=>do Instr.mapUpdate 470 (.map (some m)) (.int .i64 a) (.bool true);pure undef) h k:=by
 refine IW aXm u3 q (key:=.int .i64 a) rfl (λp d e=>?_) (λh' g f t=>K h' ?_ f t)
 .obtain⟨k,c,rfl⟩:=xz.1 d;simp at e;exact b (e ▸ c)
 simpa[BN]using g
theorem JS{r:Nat}{c:List Value}{l:List (Value×Value)}{e:Nat}(g:h r=zcL e c)(q:Mp h m d l):m≠r:=λb=>by
 obtain⟨s,o,a,-⟩:=q.out;rw[b,g]at a;cases a
theorem Mp.obj{l:List (Value×Value)}{e:Nat}(q:Mp h m d l)(k:∀j o,h j=some o->(∀c fr,o≠.cells c e fr)->h' j=some o):Mp h' m d l:=by obtain⟨s,a,g,b⟩:=q.out;exact⟨s,a,k _ _ g (λc fr e=>by cases e),b⟩
theorem Qq{f I:Nat}{x:Int}(gr:h f=some (.cells #[.map (some I),.int .i64 x] 504 (0,0)))(rg:Rg h0 h I E)(hE:E.length<=2^37)(s:Int):
 Ct 322 [.zP f,.int .i64 s] h (λv h'=>Kp [f] h h'/\∃m x',v=.map (some m)/\h m=none/\h' f=some (.cells #[.map (some I),.int .i64 x'] 504 (0,0))/\Mp h' m (.int .i64) (BN (over E s))):=by
 have Kc:jL h f f=none:=nV h f;refine cg eQc Tryz.func322 λA hA=>?_;cbv;intro m h1 hm e1;have l1:Le h h1:=by rw[e1];exact Le.set hm
 have g1:=(congrFun e1 m).trans ae;have ax:Mp h1 m (.int .i64) (BN []):=Mp.new g1;cbv;intro W h2 eC e2;have l2:Le h1 h2:=by rw[e2];exact Le.set eC
 have g2:=(congrFun e2 W).trans ae;have Jo:=l1.trans l2;have UZ:=Jo _ _ gr;have NZ:=ax.kp (l2.kp []) (by simp);have Du:Le (jL h f) h2:=(tZ h f).trans Jo;have aB:jL h f W=none:=((tZ h f).trans l1).none eC;have gZ:ly 3 dD (jL h f) h2 (.slice (zsA W) 1 1) [s] 1:=
  ((DJ (s:=dD) g2 (x:=s) rfl).buf aB rfl).t (by simp)
 have Tf:As E []=E.length:=by simp[As]
 cbv;refine aX.go (G:=Option Addr×Nat×Nat) (λg=>[(6,.v (.slice g.1 g.2.1 g.2.2))]) (λ_=>[])
  (λk g h'=>∃c d n p x',Kp [f] h h'/\h' f=some (.cells #[.map (some I),.int .i64 x'] 504 (0,0))/\Mp h' m (.int .i64) (BN c)/\ly 3 dD (jL h f) h' (.slice g.1 g.2.1 g.2.2) d p/\
   k=As E c+d.length/\k<=n/\aKr E n (c,d)=over E s/\p+As E c<=E.length+1/\d.length<=p) (E.length+1) (zsA W,1,1) ⟨?_,?_,?_⟩ ⟨[],[s],E.length+2,1,x,Jz Du,UZ,NZ,gZ,by rw[Tf];rfl,by omega,rfl,by rw[Tf];omega,by simp⟩ ?_
 .cbv
 .cbv
 .cbv
 intro k g h' hI;cbv;obtain⟨c,d,n,p,x',kp,V,mp,R,hk,Jv,Pa,hp,N⟩:=hI;obtain⟨gb,D,gc⟩:=g;have R:ly 3 dD (jL h f) h' (.slice gb D gc) d p:=R;have Bw:D=d.length:=R.sl.len;generalize X:A .aN .gtr (A .nat D) 0=u;have bk:=X;rw[bC A,hA.nat]at X;simp only[rz]at X;have hu:u=true->0<D:=λe=>by rw[e]at X;have:=lA X;omega
 have XR:u=false->D=0:=λe=>by rw[e]at X;have:=kz X;omega
 cases u with
 |false=>
  have h0:=XR rfl;have P:d=[]:=kh (by omega);subst P;have aD:over E s=c:=by rw[<-Pa];cases n<;>rfl
  cbv;exact⟨kp,m,x',rfl,hm,V,by rw[aD];exact mp⟩
 |true=>
  have h0:=hu rfl;cases d with
  |nil=>simp at Bw;omega
  |cons a r=>
   cbv;rw[av A];refine(cZj (cm V rfl)).mono (λv h3 hR=>?_);obtain⟨z,y,rfl,ay⟩:=hR;have e3:=ay.exp V;have UY:h3 f=some (.cells #[.map (some I),.int .i64 y] 504 (0,0)):=(congrFun e3 f).trans ae;have ab:=JS V mp;have k3:Kp [f] h' h3:=by rw[e3];exact Kp.set (by simp)
   have t3:cO [3] h' h3:=by rw[e3];exact cO.set V (by decide)
   have T:=kp.trans k3;have aq:=mp.kp k3 (by simpa using ab);have xU:=R.mono t3;have ey:gb.isSome=true/\(0:Int)<=0/\(0:Int)<(D:Int):=⟨xU.sl.bp,by omega,by omega⟩;cbv;rw[av A];refine cr UY ?_;cbv;refine⟨ey,?_⟩;cbv;refine xU.sl.load (i:=0) (x:=a) rfl (n:=0) rfl (λcs q=>?_);have q:cs=[.int .i64 a]:=q;subst q;cbv;refine rg.dQU gr T a (λbb F cc qs=>?_);have rW:F=(da E a).length:=qs.len;have bc:=qs.bound;obtain⟨n',ao⟩:∃n',n=n'+1:=⟨n-1,by simp at hk;omega⟩;subst ao;have yD:aKr E n' ((da E a).foldl dN (c,r))=over E s:=Pa;simp only[wS]at hk N;cbv;refine aX.go (G:=Int×Option Addr×Nat×Nat) (λg=>[(30,.v (.int .i64 g.1)),(6,.v (.slice g.2.1 g.2.2.1 g.2.2.2))]) (λ_=>[])
    (λk2 g H=>∃j p,aZ g.1 j/\k2=F-j/\j<=F/\Kp [f] h H/\H f=some (.cells #[.map (some I),.int .i64 y] 504 (0,0))/\Mp H m (.int .i64) (BN (((da E a).take j).foldl dN (c,r)).1)/\
     ly 3 dD (jL h f) H (.slice g.2.1 g.2.2.1 g.2.2.2) (a::(((da E a).take j).foldl dN (c,r)).2) p/\
     As E (((da E a).take j).foldl dN (c,r)).1+(((da E a).take j).foldl dN (c,r)).2.length<=As E c+r.length/\
     p+As E (((da E a).take j).foldl dN (c,r)).1<=E.length+1/\(((da E a).take j).foldl dN (c,r)).2.length+1<=p) F (0,gb,D,gc) ⟨?_,?_,?_⟩
     ⟨0,p,⟨rfl⟩,by omega,by omega,T,UY,aq,xU,kB _,hp,N⟩ ?_
   .cbv
   .cbv
   .cbv
   intro k2 g H hI;cbv;obtain⟨j,Y,l,rY,hj,K,xA,Q,J,hM,M,aC⟩:=hI;obtain⟨z4,O,Z,L⟩:=g;have l:aZ z4 j:=l;generalize B:((da E a).take j).foldl dN (c,r)=st at *;have J:ly 3 dD (jL h f) H (.slice O Z L) (a::st.2) Y:=J;have bj:Z=st.2.length+1:=J.sl.len;refine ba (λS=>?_) (λS=>?_)
   .have aU:=l.lt S;clear S;obtain⟨w,hw⟩:=cB (da E a) j;have vT:w∈da E a:=cK hw;have Kh:((da E a).take (j+1)).foldl dN (c,r)=dN st w:=by rw[qM,hw,List.foldl_append,B];rfl
    cbv;refine⟨⟨qs.bp,l.ix aU⟩,?_⟩;cbv;refine(qs.mono (Kp.dQZ K gr (by decide))).load hw l.eq (λcs q=>?_);have q:cs=[.int .i64 w]:=q;subst q;cbv;refine Jj Q w (λt P=>?_);cases t with
    |true=>
     have qO:A .not true=false:=by rw[hA.not];rfl
     have nW:dN st w=st:=by unfold dN;rw[<-P];rfl
     cbv;rw[qO];cbv;refine⟨F-(j+1),(_,O,Z,L),by omega,by constructor<;>cbv,j+1,Y,l.succ (A:=A),rfl,by omega,K,xA,?_⟩
     rw[Kh,nW];exact⟨Q,J,hM,M,aC⟩
    |false=>
     have qO:A .not false=true:=by rw[hA.not];rfl
     have Yh:w∉st.1:=kz P.symm;have nW:dN st w=(st.1++[w],st.2++[w]):=by unfold dN;rw[<-P];rfl
     have aW:=Qn Yh vT;cbv;rw[qO];cbv;refine bJx Q Yh (λh5 aw k5 t5=>?_);have bd:=JS xA Q;have Mi:=t5 [504] _ _ _ _ (by decide) xA;have aH:Kp [f] h h5:=λb o C aA=>by
      have:=K b o C aA;refine k5 b o this ?_;intro e;simp at e;rw[e,hm]at C;cases C
     have sM:=J.mono (t5 _);cbv;intro ag h6 OK e6;have U:Le h5 h6:=by rw[e6];exact Le.set OK
     have g6:=(congrFun e6 ag).trans ae;have al:=U _ _ Mi;have aK:=aw.kp (U.kp []) (by simp);have aG:=aH.trans (U.kp _);have aE:Le (jL h f) h6:=λb o C=>by
      unfold jL at C;split at C
      .cases C
      rename_i bS;exact aG b o C (by simpa using bS)
     cbv;refine(sM.mono (U.t _)).append (bf (s:=dD) g6 (x:=w) rfl) (by decide) rfl (by decide) (by omega) (by omega) (by omega) aE (λmm b' c' h7 Dq l7 t7 iF k7=>?_);have an:=t7 [504] (by decide) _ _ _ _ (by decide) al;have aI:=Mp.obj aK k7;have aF:Kp [f] h h7:=Jz l7;cbv;refine⟨F-(j+1),(_,b',mm,c'),by omega,by constructor<;>cbv,j+1,Y+1,l.succ (A:=A),rfl,by omega,aF,an,?_⟩
     rw[Kh,nW];refine⟨aI,by simpa using iF,?_,?_,?_⟩
     .simp only[cy,qA];omega
     .simp only;omega
     simp only[cy,qA];omega
   have lJ:=l.ge S;have aM:j=F:=by omega
   rw[show(da E a).take j=da E a from ie (by omega)]at B;have Ih:aZ (1:Int) 1:=⟨rfl⟩;have mC:(0:Int)<=1/\(1:Int)<=(Z:Int):=by omega
   have zM:=J.tail (A:=A) Ih (cJ (A:=A) (n:=Z) Ih) (cJ (A:=A) (n:=L) Ih);rw[B]at yD;cbv;refine⟨mC,?_⟩;cbv;refine⟨As E st.1+st.2.length,(_,_,_),by omega,⟨?_,?_,?_⟩,st.1,st.2,n',Y,y,K,xA,Q,zM,rfl,by omega,yD,M,by omega⟩
   .cbv;exact⟨rfl,True.intro⟩
   .cbv
   cbv
structure cZk(E:List (Int×Int))(s v:Int)(t:Bool):Prop where
 out:(t=false/\v=0/\s∉over E s)\/(t=true/\s∈over E s/\s<=v/\(v=s\/(v∈over E s/\s∈over E v))/\∀k∈over E s,s∈over E k->k<=v)
theorem cZk.jXu{s v f:Int}{t l:Bool}(a:cZk E s v t)(b:cZk E s f l):v=f/\t=l:=by
 rcases a.out with⟨a1,a2,i⟩|⟨a1,a2,i,m,n⟩
 .rcases b.out with⟨c,d,e⟩|⟨c,d,e,j,k⟩
  .exact⟨by rw[a2,d],by rw[a1,c]⟩
  exact absurd d i
 rcases b.out with⟨c,d,e⟩|⟨c,d,e,j,k⟩
 .exact absurd a2 e
 refine⟨?_,by rw[a1,c]⟩;have h:v<=f:=by
  rcases m with rfl| ⟨h,g⟩
  .exact e
  exact k v h g
 have g:f<=v:=by
  rcases j with rfl| ⟨h,g⟩
  .exact i
  exact n f h g
 omega
def iT(E:List (Int×Int))(s:Int)(l:List Int)(m:Int):Int:=l.foldl (λm k=>if decide (k>m)&&decide (s∈over E k)then k else m) m
def dx(E:List (Int×Int))(s:Int):Int×Bool:=if decide (s∈over E s)=true then(iT E s (over E s) s,true)else(0,false)
theorem vg(E:List (Int×Int))(s:Int):∀(l:List Int) (m:Int),m<=iT E s l m/\(iT E s l m=m\/(iT E s l m∈l/\s∈over E (iT E s l m)))/\∀k∈l,s∈over E k->k<=iT E s l m
 | [],m=>⟨jKt _,.inl rfl,λk a=>by cases a⟩
 |x::r,m=>by
  have e:iT E s (x::r) m=iT E s r (if decide (x>m)&&decide (s∈over E x)then x else m):=rfl;rw[e];by_cases c:(decide (x>m)&&decide (s∈over E x))=true
  .rw[if_pos c];simp at c;obtain⟨d,h,f⟩:=vg E s r x;refine⟨by omega,?_,λk a b=>?_⟩
   .rcases h with h| ⟨h,U⟩
    .right;rw[h];exact⟨by simp,c.2⟩
    right;exact⟨by simp[h],U⟩
   rcases xl.1 a with rfl|a
   .exact d
   exact f k a b
  rw[if_neg c];simp at c;obtain⟨d,h,f⟩:=vg E s r m;refine⟨d,?_,λk a b=>?_⟩
  .rcases h with h| ⟨h,U⟩
   .exact .inl h
   right;exact⟨by simp[h],U⟩
  rcases xl.1 a with rfl|a
  .rcases Int.lt_or_le m k with g|hle
   .exact absurd b (c g)
   omega
  exact f k a b
theorem pJ(E:List (Int×Int))(s:Int):cZk E s (dx E s).1 (dx E s).2:=by
 constructor;unfold dx;by_cases h:s∈over E s
 .rw[if_pos (by simpa using h)];obtain⟨a,b,c⟩:=vg E s (over E s) s;exact .inr ⟨rfl,h,a,b,c⟩
 rw[if_neg (by simpa using h)];exact .inl ⟨rfl,rfl,h⟩
theorem cZk.eq{s v:Int}{t:Bool}(a:cZk E s v t):v=(dx E s).1/\t=(dx E s).2:=a.jXu (pJ E s)
theorem Rg.gen(q:Rg h0 h m E){bs:List Nat}(k:Kp bs h h')(f:m∉bs)(t:cO [3] h h'):Rg h0 h' m E:=by obtain⟨G,c,d,a,e⟩:=q.out;exact⟨G,c.kp k f,d,λg b=>⟨(a g b).1,(a g b).2.mono t⟩,e⟩
theorem Rg.map(q:Rg h0 h m E):∃l,Mp h m (.int .i64) l:=by obtain⟨G,g,-⟩:=q.out;exact⟨_,g⟩
theorem Hk{W:List bU}{b1 b2:Option Addr}{T c1 U c2:Nat}(q1:Sl 253 bu h (.slice b1 T c1) H)(q2:Sl 253 bu h (.slice b2 U c2) W)(fh:T<=2^18)(eU:U<=2^18)(s:Int):
 Ct 234 [.agg #[.slice b1 T c1,.slice b2 U c2],.int .i64 s] h (λv h'=>Le h h'/\∃z t,v=.tuple #[.int .i64 z,.bool t]/\cZk (cQ H W) s z t):=by
 have hE:(cQ H W).length<=2^37:=by have:=Cu H W;have:=BL (show W.length<=2^18 by rw[<-q2.len];exact eU) (show H.length<=2^18 by rw[<-q1.len];exact fh);omega
 generalize TE:cQ H W=E at *;refine cg eXD Tryz.func234 λA hA=>?_;cbv;refine(WH q1 q2 fh eU).mono (λv d hR=>?_);obtain⟨l1,o,r,rfl,Kc,aB,gr,V⟩:=hR;rw[TE]at V;cbv;refine(Qq gr V hE s).mono (λv f hR=>?_);obtain⟨k2,m,x2,rfl,hm,UZ,NZ⟩:=hR;have l2:Le h f:=l1.aV (by simpa using Kc) k2;have ax:Rg h f r E:=by obtain⟨l,O⟩:=V.map;exact V.gen k2 (by simpa using JS gr O) (Kp.dQZ k2 gr (by decide))
 cbv;refine Jj NZ s (λt M=>?_);cases t with
 |false=>
  have qO:A .not false=true:=by rw[hA.not];rfl
  have hs:s∉over E s:=kz M.symm;cbv;rw[qO];cbv;exact⟨l2,0,false,rfl,⟨.inl ⟨rfl,rfl,hs⟩⟩⟩
 |true=>
  have qO:A .not true=false:=by rw[hA.not];rfl
  have hs:s∈over E s:=lA M.symm;cbv;rw[qO];cbv;refine SA aXm NZ (λn h3 aw N ay=>?_);have UY:=N _ _ UZ;have aA:=NZ.kp (N.kp []) (by simp);have al:=ax.gen (N.kp []) (by simp) (N.t _);have ag:=l2.trans N;cbv;refine aX.go (G:=Int) (λz=>[(8,.v (.int .i64 z))]) (λ_=>[(2,[.slice b1 T c1,.slice b2 U c2])])
   (λk z h'=>∃left b x',Le h h'/\It h' n m left b/\k=left.length/\h' o=some (.cells #[.map (some r),.int .i64 x'] 504 (0,0))/\Rg h h' r E/\
    s<=z/\(z=s\/(z∈over E s/\s∈over E z))/\(∀p∈left,p∈BN (over E s))/\∀k∈over E s,s∈over E k->k<=z\/(Value.int .i64 k,Value.bool true)∈left) _ s ⟨?_,?_,?_⟩
    ⟨_,_,x2,ag,ay,rfl,UY,al,jKt _,.inl rfl,λp L=>L,λk i _=>.inr (KS.2 i)⟩ ?_
  .cbv
  .cbv
  .cbv
  intro k z h' hI;cbv;obtain⟨left,b,x',I,J,i,Va,B,ko,lN,Z,X⟩:=hI;have ao:n≠o:=λe=>by
   obtain⟨_,_,_,_,_,_,g,_⟩:=J.out;rw[e,Va]at g;cases g
  have Tq:m≠o:=λe=>by
   obtain⟨_,_,_,_,_,g,_⟩:=J.out;rw[e,Va]at g;cases g
  have aq:r≠n:=λe=>by
   obtain⟨_,_,_,_,_,_,g,_⟩:=J.out;obtain⟨l,O⟩:=B.map;obtain⟨_,_,g',_⟩:=O.out;rw[e,g]at g';cases g'
  refine Ws J (λhl=>?_) (λkey val C h4 fC q ku aU j k4 t4=>?_)
  .cbv;refine⟨I,z,true,rfl,⟨.inr ⟨rfl,hs,ko,lN,λk i c=>?_⟩⟩⟩;rcases X k i c with d|d
   .exact d
   rw[hl]at d;cases d
  have Y:=t4 [504] _ _ _ _ (by decide) Va;have mS:=Z _ fC;obtain⟨w,hw,he⟩:=xz.1 mS;cases he;have l4:Le h h4:=I.aV (by simpa using l2.none aw) k4;have Q:=B.gen k4 (by simpa using aq) (t4 _);have y:∀(a:ad) (x:Int),Le h a->It a n m C (some (.int .i64 w,.bool true))->a o=some (.cells #[.map (some r),.int .i64 x] 504 (0,0))->Rg h a r E->((s∈over E w)->w<=z)->
   ∃left b x',Le h a/\It a n m left b/\C.length=left.length/\a o=some (.cells #[.map (some r),.int .i64 x'] 504 (0,0))/\Rg h a r E/\
    s<=z/\(z=s\/(z∈over E s/\s∈over E z))/\(∀p∈left,p∈BN (over E s))/\∀k∈over E s,s∈over E k->k<=z\/(Value.int .i64 k,Value.bool true)∈left:=
   λa x a1 a2 a3 a4 a5=>⟨C,_,x,a1,a2,rfl,a3,a4,ko,lN,λp L=>Z p (ku p L),λk i c=>by
    rcases X k i c with d|d
    .exact .inl d
    rcases q _ d with f|f
    .have:k=w:=by cases f;rfl
     subst this;exact .inl (a5 c)
    exact .inr f⟩
  have P:∀(a:ad) (x:Int),Le h a->It a n m C (some (.int .i64 w,.bool true))->a o=some (.cells #[.map (some r),.int .i64 x] 504 (0,0))->Rg h a r E->s∈over E w->z<w->
   ∃left b x',Le h a/\It a n m left b/\C.length=left.length/\a o=some (.cells #[.map (some r),.int .i64 x'] 504 (0,0))/\Rg h a r E/\
    s<=w/\(w=s\/(w∈over E s/\s∈over E w))/\(∀p∈left,p∈BN (over E s))/\∀k∈over E s,s∈over E k->k<=w\/(Value.int .i64 k,Value.bool true)∈left:=
   λa x a1 a2 a3 a4 a5 a6=>⟨C,_,x,a1,a2,rfl,a3,a4,by omega,.inr ⟨hw,a5⟩,λp L=>Z p (ku p L),λk i c=>by
    rcases X k i c with d|d
    .left;omega
    rcases q _ d with f|f
    .have:k=w:=by cases f;rfl
     subst this;exact .inl (jKt _)
    exact .inr f⟩
  generalize R:A .aN .gtr w z=u;have fg:=R;rw[bC A]at R;cbv;refine SB j ?_;cbv;rw[fg];cases u with
  |false=>
   have F:=y h4 x' l4 j Y Q (λ_=>by have:=kz R;omega);cbv;refine⟨C.length,_,by omega,by constructor<;>cbv,F⟩
  |true=>
   have xO:z<w:=lA R;cbv;refine(Qq Y Q hE w).mono (λv a hR=>?_);obtain⟨S,m5,x,rfl,Kg,Mi,an⟩:=hR;have l5:Le h a:=l4.aV (by simpa using Kc) S;have K:Rg h a r E:=by obtain⟨l,O⟩:=Q.map;exact Q.gen S (by simpa using JS Y O) (Kp.dQZ S Y (by decide))
   have D:=j.kp S (by simpa using ao) (by simpa using Tq);cbv;refine Jj an s (λt M=>?_);cases t with
   |true=>
    have F:=P a x l5 D Mi K (lA M.symm) xO;cbv;refine⟨C.length,_,by omega,by constructor<;>cbv,F⟩
   |false=>
    have ab:s∉over E w:=kz M.symm;have F:=y a x l5 D Mi K (λar=>absurd ar ab);cbv;refine⟨C.length,_,by omega,by constructor<;>cbv,F⟩
theorem jV.Xt{b d t w:Nat}{T:List ca}{W:List (eY×Bool)}{C:List bU}{a:Nat}{p q f g:Option Addr}{D r E s l:Nat}{o:Int}
 (u:h c=some (.cells #[.slice (zsA b) n t,.slice (zsA d) a w,.slice p D r,.slice q E s,.int .u32 o,.int .i32 0,.int .u32 0,.int .i64 e] 148 (0,0)))
 (B:(o=0/\e=0)\/(o=1/\e≠0)) (v:n=T.length) (x:cZ 61 bN h b t T) (y:a=W.length) (z:cZ 79 bV h d w W) (F:Sl 253 bu h (.slice f l i) H) (G:Sl 253 bu h (.slice g m j) C)
 (k:h'=bL h c (.cells #[.slice (zsA b) n t,.slice (zsA d) a w,.slice f l i,.slice g m j,.int .u32 o,.int .i32 0,.int .u32 0,.int .i64 e] 148 (0,0))):
 Kp [c] h h'/\jV h' c b d t w T W H C e:=by
 have lt:∀tys,148∉tys->cO tys h h':=λtys A=>by rw[k];exact cO.set u A
 refine⟨by rw[k];exact Kp.set (by simp),n,a,f,l,i,g,m,j,o,by rw[k];exact ae,B,v,x.mono (lt _ (by decide)),y,z.mono (lt _ (by decide)),F.mono (lt _ (by decide)),G.mono (lt _ (by decide))⟩
theorem jV.elim{l t w:Nat}{T:List ca}{W:List (eY×Bool)}{r:List bU}(q:jV h c l m t w T W H r e){p:Prop}
 (k:∀(n g:Nat) (b:Option Addr) (i d:Nat) (a:Option Addr) (j f:Nat) (o:Int),h c=some (.cells #[.slice (zsA l) n t,.slice (zsA m) g w,.slice b i d,.slice a j f,.int .u32 o,.int .i32 0,.int .u32 0,.int .i64 e] 148 (0,0))->
  ((o=0/\e=0)\/(o=1/\e≠0))->n=T.length->cZ 61 bN h l t T->g=W.length->cZ 79 bV h m w W->Sl 253 bu h (.slice b i d) H->Sl 253 bu h (.slice a j f) r->
  fE h (.agg #[.slice (zsA l) n t,.slice (zsA m) g w,.slice b i d,.slice a j f]) ⟨T,W.map (·.1),H,r⟩->p):p:=by
 obtain⟨n,g,b,i,d,a,j,f,o,A,B,s,u,v,x,y,z⟩:=q.out;exact k n g b i d a j f o A B s u v x y z ⟨_,_,_,_,_,_,_,_,_,_,_,_,W,rfl,u.sl s,x.sl v,y,z,rfl⟩
theorem dV{d:DB}{v:Value}(q:fE h v d)
 (r:∀h' b n f a m g c o i e p j,Le h h'->fE h' (.agg #[.slice b n f,.slice a m g,.slice c o i,.slice e p j]) d->k (.agg #[.slice b n f,.slice a m g,.slice c o i,.slice e p j]) h'):Ct 40 [v] h k:=
 (rO q).mono (λv h' hR=>by
  obtain⟨l,hd⟩:=hR;obtain⟨b,n,f,a,m,g,c,o,i,e,p,j,s⟩:=hd.form;rw[s]at hd |-;exact r h' _ _ _ _ _ _ _ _ _ _ _ _ l hd)
theorem kK{d:DB}{v:Value}(q:fE h v d)
 (i:∀h' c t b a e W,Le h h'->h c=none->h t=none->h b=none->c≠t->c≠b->W=(d.ai.map λw=>(w,true))->a=d.ao.length->e=W.length->jV h' c t b a e d.ao W d.holds d.waits 0->k (.zP c) h'):Ct 38 [v] h k:=
 (Ea q).mono (λv h' hR=>by
  obtain⟨l,c,t,b,a,e,W,j,g,n,u,p,o,f,M,J,cs⟩:=hR;rw[j];exact i h' c t b a e W l g n u p o f M J cs)
theorem VO{t:ca}(q:bN.R h cs t){p:List Value->Prop}(k:∀(b:Option Addr) (n c:Nat) (a:Option Addr) (e d:Nat),Sl 202 bH h (.slice b n c) t.S.bB->Sl 46 bF h (.slice a e d) t.rows->p [.string t.S.name,.slice b n c,.int .i64 t.S.key,.bool t.S.only,.slice a e d]):p cs:=by obtain⟨b,n,c,a,e,d,rfl,f,g⟩:=q;exact k b n c a e d f g
theorem zb[bI A]{len:Nat}{xs:List ca}(q:Sl 61 bN h (.slice b len cap) xs){t:ca}(hx:xs[i]? =some t){n:Int}(l:n=(i:Int)){k:List Value->Prop}
 (j:∀(a:Option Addr) (f d:Nat) (c:Option Addr) (g e:Nat),Sl 202 bH h (.slice a f d) t.S.bB->Sl 46 bF h (.slice c g e) t.rows->k [.string t.S.name,.slice a f d,.int .i64 t.S.key,.bool t.S.only,.slice c g e]):zF h (A.je b n bN.n) bN.n k:=
 q.load hx l (λcs r=>VO r j)
theorem oT[bI A]{len:Nat}(q:Sl 79 bV h (.slice b len cap) xs)(hx:xs[i]? =some w){n:Int}(j:n=(i:Int)){k:List Value->Prop}
 (f:∀(d:Option Addr) (a c:Nat),Sl 161 bz h (.slice d a c) w.1.log->(w.2=true->c=a)->(∀h' e,Le h h'->e [.slice d a c]->zF h' (A .off (A .je b n 3) 1) 1 e)->k [.slice d a c]):zF h (A .off (A .je b n 3) 1) 1 k:=
 q.tQ (s:=bV) hx j (o:=1) (m:=1) (by decide) (λcs r g=>by
  obtain⟨d,a,c,t,v,u,rfl,l,x,p⟩:=r;exact f d a c l p g)
theorem Fj[bI A]{len:Nat}(q:Sl 79 bV h (.slice b len cap) xs)(hx:xs[i]? =some w){n:Int}(p:n=(i:Int)){k:List Value->Prop}
 (l:∀(a:Option Addr) (d c:Nat),Sl 183 df h (.slice a d c) w.1.marks->(∀h' e,Le h h'->e [.slice a d c]->zF h' (A .off (A .je b n 3) 2) 1 e)->k [.slice a d c]):zF h (A .off (A .je b n 3) 2) 1 k:=
 q.tQ (s:=bV) hx p (o:=2) (m:=1) (by decide) (λcs r g=>by
  obtain⟨a,d,c,f,t,j,rfl,v,u,x⟩:=r;exact l f t j u g)
theorem QG{r b w:Nat}{T:List ca}{W:List (eY×Bool)}{a:List bU}(q:jV h c n r b w T W H a e){p k:Nat}
 (g:h p=some (.cells #[.zP c] 134 (0,0))) (E:h j=some (.cells #[.int .i64 hd.s] 3 (0,0))) (F:h k=some (.cells #[.string hd.table] 9 (0,0))) (G:h m=some (.cells #[.bool hd.x] 4 (0,0)))
 (hH:H.length<=2^18) (X:a.length<=2^18):
 Ct 232 [.zP p,.zP j,.zP k,.zP m] h
  (λv h'=>Kp [c] h h'/\∃t,v=.bool t/\t=bP H hd/\jV h' c n r b w T W (cS H hd) (cY H a hd) e):=by
 obtain⟨n1,n2,M,n3,Q,N,n4,R,o,f,x,z,B,C,D,d,i⟩:=q.out;obtain⟨I,J,hx⟩:=hd;refine cg eXF Tryz.func232 λA Z=>?_;cbv;refine cr g ?_;cbv;refine cr g ?_;cbv;rw[av A];rw[av A];refine cr f ?_;cbv;refine cr E ?_;cbv;refine cr F ?_;cbv;refine cr G ?_;cbv;refine(cZh d i (by have:=d.len;omega) (by have:=i.len;omega) ⟨I,J,hx⟩).mono (λv V hR=>?_);obtain⟨l,O,n5,S,P,n6,U,t,rfl,K,L,u⟩:=hR;cbv;refine cr (l _ _ g) ?_;cbv;refine⟨⟨_,rfl,rfl⟩,?_⟩;cbv;rw[av A];rw[av A];refine ju (l _ _ f) (by simp) (λY s=>?_);have y:=jV.Xt (l _ _ f) x z (B.mono (l.t _)) C (D.mono (l.t _)) K L s;cbv;exact⟨(l.kp _).trans y.1,t,rfl,u,y.2⟩
def dK(W:List (eY×Bool))(s:Int):List Int:=W.map λx=>IntKind.i64.wrap (x.1.s-s)
def aS(T:List ca)(name:ByteArray):List Int:=T.map λx=>dA x.S.name name
theorem Be:(cS H hd).length<=H.length+1:=by
 unfold cS;split
 .split
  .omega
  split
  .rw[nM];omega
  simp
 omega
theorem gK(l:List bU)(s:Int):(bR l s).length<=l.length:=jKe _ _
def jg:ByteArray:=⟨#[]⟩
def ji(r:Row)(t:ca):ca×cV×Int:=((bK t r).1,⟨jg,1,r⟩,(bK t r).2)
def eV(k:jd)(t:ca):ca×cV×Int:=if t.S.only=true then(t,⟨jg,0,[]⟩,19)else((bE t k).1,⟨jg,2,(bE t k).2.1⟩,(bE t k).2.2)
theorem dQz{r:Row}{z t:Option Addr}{E D s u y:Nat}(H:Sl 202 bH h (.slice z E D) B)(G:Sl 46 bF h (.slice t s u) o)
 (w:h y=some (.cells #[.slice b n c] 46 (0,0))) (q:Sl 45 bA h (.slice b n c) r) (F:s<=2^37):
 Ct 44 [.agg #[.string nm,.slice z E D,.int .i64 key,.bool only,.slice t s u],.zP y] h (λv h'=>Le h h'/\∃a m k d p g f x i e T C,v=.tuple #[.agg #[.string nm,.slice a m k,.int .i64 key,.bool only,.slice d p g],.agg #[.string jg,.int .i64 C.op,.slice f x i],.int .i64 e]/\
  Sl 202 bH h' (.slice a m k) B/\Sl 46 bF h' (.slice d p g) T/\Sl 45 bA h' (.slice f x i) C.row/\(⟨⟨⟨nm,B,key,only⟩,T⟩,C,e⟩:ca×cV×Int)=ji r ⟨⟨nm,B,key,only⟩,o⟩):=by
 refine cg hKh Tryz.func44 λA O=>?_;cbv;refine cr w ?_;cbv;refine(bQK (nm:=nm) (key:=key) (only:=only) H G q F).mono (λv M hR=>?_);obtain⟨l,a,m,k,d,p,g,e,T,rfl,I,J,K⟩:=hR;cbv;refine cr (l _ _ w) ?_;cbv;refine(Xg (q.mono (l.t _))).mono (λv N hR=>?_);obtain⟨j,f,i,rfl,L⟩:=hR;cbv;exact⟨l.trans j,_,_,_,_,_,_,_,_,_,e,T,⟨jg,1,r⟩,rfl,I.mono (j.t _),J.mono (j.t _),L,by unfold ji;rw[<-K]⟩
theorem bZI{b:List jF}{u m:Option Addr}{x w l o t:Nat}(s:Sl 202 bH h (.slice u x w) b)(q:Sl 46 bF h (.slice m l o) r)
 (y:h t=some (.cells #[.int .i64 kv.k,.int .i64 kv.n,.string kv.s] 45 (0,0))) (z:l<=2^37):
 Ct 276 [.agg #[.string nm,.slice u x w,.int .i64 key,.bool only,.slice m l o],.zP t] h (λv h'=>Le h h'/\∃a n k c i f d j g e T C,v=.tuple #[.agg #[.string nm,.slice a n k,.int .i64 key,.bool only,.slice c i f],.agg #[.string jg,.int .i64 C.op,.slice d j g],.int .i64 e]/\
  Sl 202 bH h' (.slice a n k) b/\Sl 46 bF h' (.slice c i f) T/\Sl 45 bA h' (.slice d j g) C.row/\(⟨⟨⟨nm,b,key,only⟩,T⟩,C,e⟩:ca×cV×Int)=eV kv ⟨⟨nm,b,key,only⟩,r⟩):=by
 generalize p:eV kv ⟨⟨nm,b,key,only⟩,r⟩=D;refine cg eQS Tryz.func276 λA K=>?_;cases only with
 |true=>cbv;exact⟨Le.refl _,_,_,_,_,_,_,_,_,_,19,r,⟨jg,0,[]⟩,rfl,s,q,Sl.nil,by rw[<-p];rfl⟩
 |false=>cbv;refine cr y ?_;cbv;refine(VU (nm:=nm) (key:=key) (only:=false) s q z kv).mono (λv J hR=>?_);obtain⟨E,a,n,k,c,i,f,d,j,g,e,T,R,B,F,G,H,I⟩:=hR;rw[B];cbv;exact⟨E,_,_,_,_,_,_,_,_,_,e,T,⟨jg,2,R⟩,rfl,F,G,H,by rw[<-p];unfold eV;rw[<-I];rfl⟩
theorem WY{r:Row}{y u:Option Addr}{A z t w x:Nat}(I:Sl 202 bH h (.slice y A z) B)(H:Sl 46 bF h (.slice u t w) o)
 (D:h x=some (.cells #[.slice b n c] 46 (0,0))) (q:Sl 45 bA h (.slice b n c) r) (F:t<=2^37) 
 (E:∀h' a m g d p i f s j e T C,Le h h'->Sl 202 bH h' (.slice a m g) B->Sl 46 bF h' (.slice d p i) T->Sl 45 bA h' (.slice f s j) C.row->(⟨⟨⟨nm,B,key,only⟩,T⟩,C,e⟩:ca×cV×Int)=ji r ⟨⟨nm,B,key,only⟩,o⟩->
  k (.tuple #[.agg #[.string nm,.slice a m g,.int .i64 key,.bool only,.slice d p i],.agg #[.string jg,.int .i64 C.op,.slice f s j],.int .i64 e]) h'):
 Ct 44 [.agg #[.string nm,.slice y A z,.int .i64 key,.bool only,.slice u t w],.zP x] h k:=
 (dQz (nm:=nm) (key:=key) (only:=only) I H D q F).mono (λv h' hR=>by
  obtain⟨l,a,m,g,d,p,i,f,s,j,e,T,C,G,J,K,L,M⟩:=hR;rw[G];exact E h' a m g d p i f s j e T C l J K L M)
theorem PU{s o:Option Addr}{u t p q:Nat}(D:Sl 202 bH h (.slice s u t) B)(A:Sl 46 bF h (.slice o m p) r)
 (w:h q=some (.cells #[.int .i64 kv.k,.int .i64 kv.n,.string kv.s] 45 (0,0))) (y:m<=2^37) 
 (x:∀h' b n d a i f c j g e T C,Le h h'->Sl 202 bH h' (.slice b n d) B->Sl 46 bF h' (.slice a i f) T->Sl 45 bA h' (.slice c j g) C.row->(⟨⟨⟨nm,B,key,only⟩,T⟩,C,e⟩:ca×cV×Int)=eV kv ⟨⟨nm,B,key,only⟩,r⟩->
  k (.tuple #[.agg #[.string nm,.slice b n d,.int .i64 key,.bool only,.slice a i f],.agg #[.string jg,.int .i64 C.op,.slice c j g],.int .i64 e]) h'):
 Ct 276 [.agg #[.string nm,.slice s u t,.int .i64 key,.bool only,.slice o m p],.zP q] h k:=
 (bZI (nm:=nm) (key:=key) (only:=only) D A w y).mono (λv h' hR=>by
  obtain⟨l,b,n,d,a,i,f,c,j,g,e,T,C,z,E,F,G,H⟩:=hR;rw[z];exact x h' b n d a i f c j g e T C l E F G H)
end Go.S
