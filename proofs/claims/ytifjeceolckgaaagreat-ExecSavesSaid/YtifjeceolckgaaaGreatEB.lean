import Derived.Test.YtifjeceolckgaaaGreatEA
set_option linter.all false
set_option maxRecDepth 100000
namespace Go.S
open Go.Sx Go.Proofs
variable {A:Ar}{only:Bool}{a e key x:Int}{E:List (Int×Int)}{l:List (Value×Value)}{W xs:List (fJ×Bool)}{rows:List Row}{cs:List Value}{cols:List cK}{H:List cg}{c cap i j m n r:Nat}{b:Option Addr}{d:TypeDesc}{k:Value->ad->Prop}{h h' h0:ad}{kv:cO}{hd:cg}{w:fJ×Bool}
def jF(w:cg)(H:List cg):List (Int×Int):=(H.filter (eL w)).map λh=>(w.s,h.s)
def da(H W:List cg):List (Int×Int):=W.flatMap λw=>jF w H
def dm(E:List (Int×Int))(a:Int):List Int:=(E.filter λp=>decide (p.1=a)).map (·.2)
theorem yF{b:Int}:dm (E++[(a,b)]) a=dm E a++[b]:=by simp[dm]
theorem oI{b c:Int}(h:c≠a):dm (E++[(a,b)]) c=dm E c:=by simp[dm,Ne.symm h]
theorem Ov(E:List (Int×Int))(a:Int):(dm E a).length<=E.length:=by unfold dm;rw[mQN];exact mZd _ _
structure eJj where
 a:Int
 nb:Nat
 cap:Nat
structure Rg(h0 h:ad)(m:Nat)(E:List (Int×Int)):Prop where
 out:∃G:List eJj,Mp h m (.int .i64) (G.map λg=>(.int .i64 g.a,.slice (some ⟨g.nb,0,none⟩) (dm E g.a).length g.cap))/\(G.map (·.nb)).Nodup/\(∀g∈G,h0 g.nb=none/\fX 3 dE h g.nb g.cap (dm E g.a))/\∀a,dm E a≠[]->∃g∈G,g.a=a
theorem Og:Tryz.prog.underlying 396=some (.map 3 229):=by kernel_rfl
theorem bJs:Tryz.prog.underlying 385=some (.map 3 4):=by kernel_rfl
theorem u3:Tryz.prog.underlying 3=some (.int .i64):=by kernel_rfl
theorem RS(w:World):(zeroValue 229).run Tryz.prog w=.ok (.slice none 0 0) w:=by
 have h:((Tryz.prog.info? 229).bind (·.zero))=some (.slice none 0 0):=by kernel_rfl
 cases a:Tryz.prog.info? 229 with
 |none=>rw[a]at h;cases h
 |some i=>rw[a]at h;simp at h;simp[zeroValue,typeInfo,a,h]
theorem Rg.kp(q:Rg h0 h m E){bs:List Nat}(k:Kp bs h h')(j:m∉bs)(i:∀b∈bs,h0 b≠none):Rg h0 h' m E:=by obtain⟨G,d,e,a,f⟩:=q.out;exact⟨G,d.kp k j,e,λg c=>⟨(a g c).1,(a g c).2.kp k (λhx=>i _ hx (a g c).1) (λ_ _ _ _ hx=>by cases hx)⟩,f⟩
def eF(h:ad)(n:Nat):ad:=λb=>if b=n then none else h b
theorem fY(h:ad)(n:Nat):Le (eF h n) h:=λb o q=>by
 unfold eF at q;split at q
 .cases q
 exact q
theorem dP(h:ad)(n:Nat):eF h n n=none:=by unfold eF;rw[if_pos rfl]
theorem MS(l:Le (eF h n) h'):Kp [n] h h':=λb o q a=>l b o (by unfold eF;rw[if_neg (by simpa using a)];exact q)
theorem KR{b:Nat}(q:eF h n b=none):b=n\/h b=none:=by
 unfold eF at q;split at q
 .rename_i e;exact .inl e
 exact .inr q
structure Tk(h0 h:ad)(m:Nat)(E:List (Int×Int))(a:Int)(v:Value):Prop where
 out:∃hb,Le h0 hb/\Le hb h/\cF 3 dE hb h v (dm E a)/\
  ∀h' v' x,Le hb h'->cF 3 dE hb h' v' (dm E a++[x])->∀k:Value->ad->Prop,(∀kY,Rg h0 kY m (E++[(a,x)])->Kp [m] h' kY->(∀tys,bR tys h' kY)->k undef kY)->
   fW (λ_=>Tryz.prog) (λ_=>do Instr.mapUpdate 396 (.map (some m)) (.int .i64 a) v';pure undef) h' k
theorem Pg{e:Nat}{b:Type}{s:Sh b}{xs:List b}(q:Mp h m d l)(o:fX e s h n cap xs):n≠m:=λf=>by
 obtain⟨i,k,g,-⟩:=q.out;obtain⟨c,a,-⟩:=o.out;rw[f,g]at a;cases a
theorem Rg.tk(q:Rg h0 h m E)(Q:Le h0 h)(RF:h0 m=none)(a:Int)(hk:∀b n c,Tk h0 h m E a (.slice b n c)->k (.slice b n c) h):
 fW (λ_=>Tryz.prog) (λ_=>Instr.lookup 396 (.map (some m)) (.int .i64 a) false) h k:=by
 obtain⟨G,D,g2,v,g4⟩:=q.out;have MP:=D.aJD;by_cases M:∃g∈G,g.a=a
 .obtain⟨g,l,rfl⟩:=M;obtain⟨i,hi⟩:=mXh l;obtain⟨w,W⟩:=mQB.1 hi;refine BN Og u3 D (key:=.int .i64 g.a) rfl (mQW.2 ⟨g,l,rfl⟩) (hk _ _ _ ⟨eF h g.nb,?_,fY h g.nb,?_,?_⟩)
  .intro b o hb;have H:b≠g.nb:=λe=>by rw[e,(v g l).1]at hb;cases hb
   unfold eF;rw[if_neg H];exact Q b o hb
  .exact(v g l).2.buf (dP h g.nb) rfl
  intro h' v' x O V k' wT;have H:g.nb≠m:=Pg D (v g l).2;have kp:=MS O;have C:Mp h' m (.int .i64) _:=D.kp kp (by simpa using Ne.symm H);rcases V.out with⟨b0,I,u⟩|⟨t,cap,I,u,o⟩
  .have:=congrArg List.length u;simp at this
  subst I;have fZ:(G.map λg=>(Value.int .i64 g.a,Value.slice (some ⟨g.nb,0,none⟩) (dm E g.a).length g.cap))[i]? =some (.int .i64 g.a,.slice (some ⟨g.nb,0,none⟩) (dm E g.a).length g.cap):=by rw[mXe,hi];rfl
  have J:∀j (d:eJj),G[j]? =some d->j≠i->d.a≠g.a/\d.nb≠g.nb:=λj d f T=>by
   obtain⟨X,L⟩:=mQB.1 f;constructor
   .intro s;have p:=mQZ.1 MP;rcases mJA T with P|P
    .have:=p j i (by simpa using X) (by simpa using w) P;simp[L,W,s]at this
    have:=p i j (by simpa using w) (by simpa using X) P;simp[L,W,s]at this
   intro s;have p:=mQZ.1 g2;rcases mJA T with P|P
   .have:=p j i (by simpa using X) (by simpa using w) P;simp[L,W,s]at this
   have:=p i j (by simpa using w) (by simpa using X) P;simp[L,W,s]at this
  refine bKc Og u3 C (key:=.int .i64 g.a) rfl fZ (λkY S A B=>wT kY ⟨G.set i ⟨g.a,t,cap⟩,?_,?_,?_,?_⟩ A B)
  .have:(G.set i ⟨g.a,t,cap⟩).map (λ(d:eJj)=>(Value.int .i64 d.a,Value.slice (some ⟨d.nb,0,none⟩) (dm (E++[(g.a,x)]) d.a).length d.cap))=
    (G.map λg=>(Value.int .i64 g.a,Value.slice (some ⟨g.nb,0,none⟩) (dm E g.a).length g.cap)).set i (.int .i64 g.a,.slice (some ⟨t,0,none⟩) (dm E g.a++[x]).length cap):=by
    apply mXM;intro j;rw[mXe,mXR,mXR,mQN,mXe];by_cases T:i=j
    .subst T;rw[if_pos rfl,if_pos rfl,if_pos w];simp[yF,w]
    rw[if_neg T,if_neg T];cases f:G[j]? with
    |none=>rfl
    |some d=>simp[oI (J j d f (Ne.symm T)).1]
   rw[this];exact S
  .rw[mZc];refine mQZ.2 (λp r z F U=>?_);have Ib:∀j (d:eJj),G[j]? =some d->j≠i->d.nb≠t:=λj d f T e=>by
    rcases KR u with y|y
    .exact(J j d f T).2 (e.trans y)
    exact(v d (mQz f)).2.has (by rw[e];exact y)
   simp only[mXv,mQN]at z F;rw[mJe,mJe];by_cases h1:i=p
   .subst h1;rw[if_pos rfl,if_neg (by omega),mZr];exact Ne.symm (Ib r G[r] (by simp[F]) (by omega))
   rw[if_neg h1];by_cases h2:i=r
   .subst h2;rw[if_pos rfl,mZr];exact Ib p G[p] (by simp[z]) (by omega)
   rw[if_neg h2];exact mQZ.1 g2 p r (by simpa using z) (by simpa using F) U
  .intro d R;obtain⟨j,f⟩:=mXh R;rw[mXR]at f;by_cases T:i=j
   .subst T;rw[if_pos rfl,if_pos w]at f;cases f;refine⟨?_,?_⟩
    .rcases KR u with y|y
     .rw[y];exact(v g l).1
     exact Q.none y
    rw[yF];exact o.kp A (by simpa using Pg C o) (B _)
   rw[if_neg T]at f;obtain⟨f1,f2⟩:=J j d f (Ne.symm T);obtain⟨Y,f4⟩:=v d (mQz f);have o':=f4.kp kp (by simpa using f2) (λ_ _ _ _ hx=>by cases hx);refine⟨Y,?_⟩;rw[oI f1];exact o'.kp A (by simpa using Pg C o') (B _)
  intro c N;by_cases Z:c=g.a
  .exact⟨⟨g.a,t,cap⟩,mQz (i:=i) (by rw[mXR,if_pos rfl,if_pos w]),Z.symm⟩
  rw[oI Z]at N;obtain⟨d,R,s⟩:=g4 c N;obtain⟨j,f⟩:=mXh R;have T:i≠j:=λe=>by subst e;rw[hi]at f;cases f;exact Z s.symm
  exact⟨d,mQz (i:=j) (by rw[mXR,if_neg T];exact f),s⟩
 have ab:dm E a=[]:=Classical.byContradiction λH=>M (g4 a H);have K:∀p∈(G.map λg=>(Value.int .i64 g.a,Value.slice (some ⟨g.nb,0,none⟩) (dm E g.a).length g.cap)),p.1≠.int .i64 a:=λp z e=>by
  obtain⟨g,l,rfl⟩:=mQW.1 z;simp at e;exact M ⟨g,l,e⟩
 refine xD Og u3 RS D (key:=.int .i64 a) rfl K (hk _ _ _ ⟨h,Q,Le.refl _,by rw[ab];exact cF.nil,?_⟩);intro h' v' x O V k' wT;have C:=D.kp (O.kp []) (by simp);rcases V.out with⟨b0,I,u⟩|⟨t,cap,I,u,o⟩
 .have:=congrArg List.length u;simp at this
 subst I;refine vz Og u3 C (key:=.int .i64 a) rfl K (λkY S A B=>wT kY ⟨G++[⟨a,t,cap⟩],?_,?_,?_,?_⟩ A B)
 .have:(G++[(⟨a,t,cap⟩:eJj)]).map (λ(d:eJj)=>(Value.int .i64 d.a,Value.slice (some ⟨d.nb,0,none⟩) (dm (E++[(a,x)]) d.a).length d.cap))=
   (G.map λg=>(Value.int .i64 g.a,Value.slice (some ⟨g.nb,0,none⟩) (dm E g.a).length g.cap))++[(.int .i64 a,.slice (some ⟨t,0,none⟩) (dm E a++[x]).length cap)]:=by
   rw[mKz];congr 1
   .refine mZv (λg l=>?_);rw[oI (λe=>M ⟨g,l,e⟩)]
   simp[yF]
  rw[this];exact S
 .rw[mKz];refine List.nodup_append.2 ⟨g2,by simp,?_⟩;intro p z r F e;simp at F;obtain⟨g,l,rfl⟩:=mQW.1 z;exact(v g l).2.has (by rw[e,F];exact u)
 .intro d R;rcases mQE.1 R with R|R
  .obtain⟨Y,f4⟩:=v d R;have o':=f4.mono (O.t _);refine⟨Y,?_⟩;rw[oI (λe=>M ⟨d,R,e⟩)];exact o'.kp A (by simpa using Pg C o') (B _)
  simp at R;subst R;refine⟨Q.none u,?_⟩;rw[yF];exact o.kp A (by simpa using Pg C o) (B _)
 intro c N;by_cases Z:c=a
 .exact⟨⟨a,t,cap⟩,by simp,Z.symm⟩
 rw[oI Z]at N;obtain⟨d,R,s⟩:=g4 c N;exact⟨d,by simp[R],s⟩
theorem Uu{W:List cg}{w:cg}(h:W[i]? =some w):da H (W.take (i+1))=da H (W.take i)++jF w H:=by unfold da;rw[mXt,h];simp
theorem Uv{w o:cg}(h:H[j]? =some o)(a:eL w o=true):jF w (H.take (j+1))=jF w (H.take j)++[(w.s,o.s)]:=by unfold jF;rw[mXt,h,mZq];simp[a]
theorem QH{w o:cg}(h:H[j]? =some o)(a:eL w o=false):jF w (H.take (j+1))=jF w (H.take j):=by unfold jF;rw[mXt,h,mZq];simp[a]
theorem Iy(w:cg)(H:List cg):(jF w H).length<=H.length:=by unfold jF;rw[mQN];exact mZd _ _
theorem Ew(H W:List cg):(da H W).length<=W.length*H.length:=by
 induction W with
 |nil=>simp[da]
 |cons w r i=>
  have:da H (w::r)=jF w H++da H r:=by simp[da]
  rw[this,mQy,mQM,mXG];have:=Iy w H;omega
theorem DP{a b:Nat}(h:a<=2^18)(c:b<=2^18):a*b<=2^36:=by
 have:=mJi h c;have e:(2:Nat)^18*2^18=2^36:=by decide
 omega
theorem aZj{W:List cg}{N O:Option Addr}{P f S:Nat}(q1:Sl 201 bG h (.slice N n P) H)(q2:Sl 201 bG h (.slice O f S) W)(lG:n<=2^18)(mY:f<=2^18):
 Ct 297 [.agg #[.slice N n P,.slice O f S]] h (λv h'=>Le h h'/\∃r m,v=.pointer (some ⟨r,0,none⟩)/\h r=none/\h m=none/\h' r=some (.cells #[.map (some m),.int .i64 0] 401 (0,0))/\Rg h h' m (da H W)):=by
 have wE:=q1.len;have pz:=q2.len;have hE:∀i,(da H (W.take i)).length<=2^36:=λi=>by
  have:=Ew H (W.take i);have T:(W.take i).length<=2^18:=by rw[mQK];omega
  have:=DP T (show H.length<=2^18 by omega);omega
 refine mQx lXY Tryz.func297 λA hA=>?_;cbv;intro m h1 B e1;have l1:Le h h1:=by rw[e1];exact Le.set B
 have g1:=(congrFun e1 m).trans ae;cbv;intro r T KJ e2;have l2:Le h1 T:=by rw[e2];exact Le.set KJ
 have gr:=(congrFun e2 r).trans ae;have gm:=l2 _ _ g1;have jZ:=l1.trans l2;have Z:Rg h T m (da H (W.take 0)):=⟨[],Mp.new gm,by simp,by simp,λa ha=>absurd rfl ha⟩;cbv;refine aX.go (G:=Int) (λz=>[(14,.v (.int .i64 z))]) (λ_=>[(1,[.slice N n P,.slice O f S])])
  (λk z h'=>∃i:Nat,aS z i/\k=f-i/\i<=f/\Le h h'/\h' r=some (.cells #[.map (some m),.int .i64 0] 401 (0,0))/\Rg h h' m (da H (W.take i))) f 0 ⟨?_,?_,?_⟩ ⟨0,⟨rfl⟩,by omega,by omega,jZ,gr,Z⟩ ?_
 .cbv
 .cbv
 .cbv
 intro k z h' hI;cbv;obtain⟨i,E,hk,hi,q,Wy,rg⟩:=hI;refine bh (λc=>?_) (λc=>?_)
 .have aP:=E.lt c;clear c;cbv;obtain⟨w,hw⟩:=mQA W i;refine⟨⟨q2.aT,E.ix aP⟩,?_⟩;cbv;refine(q2.mono (q.t _)).load hw E.eq (λcs y=>?_);have y:cs=[.int .i64 w.s,.string w.table,.bool w.x]:=y;subst y;have F:=Uu (H:=H) hw;have af:=hE (i+1);rw[F]at af;have Z:Rg h h' m (da H (W.take i)++jF w (H.take 0)):=by simpa[jF]using rg
  cbv;refine aX.go (G:=Int) (λz=>[(21,.v (.int .i64 z))]) (λ_=>[(5,[.int .i64 w.s,.string w.table,.bool w.x]),(1,[.slice N n P,.slice O f S])])
   (λk z h'=>∃j:Nat,aS z j/\k=n-j/\j<=n/\Le h h'/\h' r=some (.cells #[.map (some m),.int .i64 0] 401 (0,0))/\Rg h h' m (da H (W.take i)++jF w (H.take j))) n 0 ⟨?_,?_,?_⟩ ⟨0,⟨rfl⟩,by omega,by omega,q,Wy,Z⟩ ?_
  .cbv
  .cbv
  .cbv
  intro k2 z2 h3 hI;cbv;obtain⟨j,L,sJ,hj,Y,D,p⟩:=hI;refine bh (λc=>?_) (λc=>?_)
  .have iV:=L.lt c;clear c;cbv;obtain⟨o,ho⟩:=mQA H j;refine⟨⟨q1.aT,L.ix iV⟩,?_⟩;cbv;refine(q1.mono (Y.t _)).load ho L.eq (λcs y=>?_);have y:cs=[.int .i64 o.s,.string o.table,.bool o.x]:=y;subst y;cbv;refine(IX (a:=w) (b:=o)).mono (λv h4 hR=>?_);obtain⟨l4,t,rfl,et⟩:=hR;have R:=l4 _ _ D;have J:=p.kp (l4.kp []) (by simp) (by simp);have X:=Y.trans l4;cases t with
   |true=>
    have g:=Uv ho et.symm;have ag:(da H (W.take i)++jF w (H.take j)).length<=2^38:=by have:=Iy w (H.take j);have U:=hE i;rw[mQK]at this;rw[mQy];omega
    cbv;rw[ai A];refine mQw R ?_;cbv;rw[ai A];refine mQw R ?_;cbv;refine⟨?_,?_⟩
    .refine J.tk X B w.s (λbb nn cc tk=>?_);obtain⟨hb,t1,t2,M,t4⟩:=tk.out;have qC:nn<=2^38:=by have:=M.sl.len;have:=Ov (da H (W.take i)++jF w (H.take j)) w.s;omega
     cbv;refine mQw R ?_;cbv;refine⟨⟨_,rfl,rfl⟩,?_⟩;cbv;intro V U yf C;have u:Le h4 U:=by rw[C];exact Le.set yf
     have g5:=(congrFun C V).trans ae;have Q:=u _ _ R;cbv;refine mQw Q ?_;cbv;refine⟨⟨_,rfl,rfl⟩,?_⟩;cbv;refine(M.mono (u.t _)).append (bA (s:=dE) g5 (x:=o.s) rfl) (by decide) rfl (by decide) (by omega) (t2.trans u) (λmm b' c' h6 sf I t6 k6 K=>?_);have d:=t6 [401] (by decide) _ _ _ _ (by decide) Q;cbv;refine mQw d ?_;cbv;refine⟨⟨_,rfl,rfl⟩,?_⟩;cbv;refine t4 h6 _ o.s I K _ (λh7 e k7 t7=>?_);have l7:Le h h7:=(t1.trans I).dJ (by simpa using B) k7;have l:=t7 [401] _ _ _ _ (by decide) d;rw[mXk,<-g]at e;cbv;refine⟨n-(j+1),_,by omega,by constructor<;>cbv,j+1,L.succ (A:=A),rfl,by omega,l7,l,e⟩
    intro V U yf C;have u:Le h4 U:=by rw[C];exact Le.set yf
    have g5:=(congrFun C V).trans ae;have Q:=u _ _ R;have ab:=J.kp (u.kp []) (by simp) (by simp);cbv;refine mQw Q ?_;cbv;refine⟨⟨_,rfl,rfl⟩,?_⟩;cbv;refine mQw Q ?_;cbv;refine⟨⟨_,rfl,rfl⟩,?_⟩;cbv;refine ab.tk (X.trans u) B w.s (λbb nn cc tk=>?_);obtain⟨hb,t1,t2,M,t4⟩:=tk.out;have qC:nn<=2^38:=by have:=M.sl.len;have:=Ov (da H (W.take i)++jF w (H.take j)) w.s;omega
    cbv;refine mQw Q ?_;cbv;refine⟨⟨_,rfl,rfl⟩,?_⟩;cbv;refine(M).append (bA (s:=dE) g5 (x:=o.s) rfl) (by decide) rfl (by decide) (by omega) t2 (λmm b' c' h6 sf I t6 k6 K=>?_);have d:=t6 [401] (by decide) _ _ _ _ (by decide) Q;cbv;refine mQw d ?_;cbv;refine⟨⟨_,rfl,rfl⟩,?_⟩;cbv;refine t4 h6 _ o.s I K _ (λh7 e k7 t7=>?_);have l7:Le h h7:=(t1.trans I).dJ (by simpa using B) k7;have l:=t7 [401] _ _ _ _ (by decide) d;rw[mXk,<-g]at e;cbv;refine⟨n-(j+1),_,by omega,by constructor<;>cbv,j+1,L.succ (A:=A),rfl,by omega,l7,l,e⟩
   |false=>
    have g:=QH ho et.symm;cbv;refine⟨n-(j+1),_,by omega,by constructor<;>cbv,j+1,L.succ (A:=A),rfl,by omega,X,R,?_⟩
    rw[g];exact J
  have lN:=L.ge c;rw[show H.take j=H from mXa (by omega),<-F]at p;cbv;refine⟨f-(i+1),_,by omega,by constructor<;>cbv,i+1,E.succ (A:=A),rfl,by omega,Y,D,p⟩
 have lN:=E.ge c;rw[mXa (by omega)]at rg;cbv;exact⟨q,r,m,rfl,l1.none KJ,B,Wy,rg⟩
def dU(st:List Int×List Int)(k:Int):List Int×List Int:=if decide (k∈st.1)=true then st else(st.1++[k],st.2++[k])
def cZr(E:List (Int×Int)):Nat->List Int×List Int->List Int
 |0,st=>st.1
 |n+1,st=>match st.2 with
  | []=>st.1
  |a::r=>cZr E n ((dm E a).foldl dU (st.1,r))
def over(E:List (Int×Int))(s:Int):List Int:=cZr E (E.length+2) ([],[s])
def BP(E:List (Int×Int))(seen:List Int):Nat:=(E.filter λp=> !decide (p.2∈seen)).length
theorem OQ(s:List Int)(y:Int):∀L:List (Int×Int),BP L (s++[y])<=BP L s
 | []=>mQD _
 |e::r=>by
  have i:=OQ s y r;unfold BP at i |-;by_cases a:e.2∈s
  .have h:e.2∈s++[y]:=by simp[a]
   rw[mZb (by rw[mQu h];simp),mZb (by rw[mQu a];simp)];exact i
  rw[mZo (p:=λp:Int×Int=> !decide (p.2∈s)) (by rw[mQv a];simp)];by_cases h:e.2∈s++[y]
  .rw[mZb (by rw[mQu h];simp),mQM];omega
  rw[mZo (by rw[mQv h];simp),mQM,mQM];omega
theorem aZw(s:List Int)(x y:Int)(k:y∉s):∀L:List (Int×Int),(x,y)∈L->BP L (s++[y])+1<=BP L s
 | [],h=>by cases h
 |e::r,h=>by
  by_cases c:e=(x,y)
  .subst c;have i:=OQ s y r;unfold BP at i |-;rw[mZb (by simp),mZo (p:=λp:Int×Int=> !decide (p.2∈s)) (by simpa using k),mQM];omega
  have f:(x,y)∈r:=by
   rcases mQI.1 h with h|h
   .exact absurd h.symm c
   exact h
  have d:=aZw s x y k r f;unfold BP at d |-;by_cases b:e.2∈s
  .have a:e.2∈s++[y]:=by simp[b]
   rw[mZb (by rw[mQu a];simp),mZb (by rw[mQu b];simp)];exact d
  rw[mZo (p:=λp:Int×Int=> !decide (p.2∈s)) (by rw[mQv b];simp)];by_cases a:e.2∈s++[y]
  .rw[mZb (by rw[mQu a];simp),mQM];omega
  rw[mZo (by rw[mQv a];simp),mQM,mQM];omega
theorem Vu{s:List Int}{k:Int}(b:k∉s)(h:k∈dm E a):BP E (s++[k])+1<=BP E s:=by unfold dm at h;obtain⟨⟨x,y⟩,m,rfl⟩:=mQW.1 h;exact aZw s x y b E (mXQ.1 m).1
theorem eQA:pV Tryz.prog 332 Tryz.f332:=⟨Tryz.func332,by kernel_rfl,by kernel_rfl,by kernel_rfl⟩
theorem eXy{b o:Nat}(q:vr h ⟨b,o,none⟩ (.int .i64 x)):Ct 315 [.pointer (some ⟨b,o,none⟩),.int .i64 1] h (λv h'=>∃z y,v=.int .i64 z/\Up h b o (.int .i64 y) h'):=by refine mQx fKs Tryz.func315 λA g=>?_;cbv;rw[ai A];refine WG eQA (by kernel_rfl) q (λc e f a d=>?_);have u:Up h b o (.int .i64 _) f:=⟨c,e,a,d⟩;generalize IntKind.i64.wrap (x+1)=y at *;cbv;exact⟨_,y,rfl,u⟩
theorem Rg.fQo(q:Rg h0 h m E)(v:h r=some (.cells (List.toArray cs) 401 (0,0)))(kp:Kp [r] h h')(a:Int)(j:∀b n c,Sl 3 dE h (.slice b n c) (dm E a)->k (.slice b n c) h'):
 fW (λ_=>Tryz.prog) (λ_=>Instr.lookup 396 (.map (some m)) (.int .i64 a) false) h' k:=by
 obtain⟨G,i,z,s,t⟩:=q.out;have w:m∉[r]:=by intro e;simp at e;obtain⟨y,l,g,-⟩:=i.out;rw[e,v]at g;cases g
 have u:=i.kp kp w;by_cases f:∃g∈G,g.a=a
 .obtain⟨g,d,rfl⟩:=f;exact BN Og u3 u (key:=.int .i64 g.a) rfl (mQW.2 ⟨g,d,rfl⟩) (j _ _ _ ((s g d).2.sl rfl))
 refine xD Og u3 RS u (key:=.int .i64 a) rfl (λp x e=>?_) (j _ _ _ ?_)
 .obtain⟨g,d,rfl⟩:=mQW.1 x;simp at e;exact f ⟨g,d,e⟩
 have:dm E a=[]:=Classical.byContradiction λo=>f (t a o);rw[this];exact Sl.nil
abbrev DT(l:List Int):List (Value×Value):=l.map λk=>(.int .i64 k,.bool true)
theorem OI{l:List Int}{k:Int}:(Value.int .i64 k,Value.bool true)∈DT l↔k∈l:=by simp[DT]
theorem Mq{l:List Int}(q:Mp h m (.int .i64) (DT l))(a:Int)(c:∀t,t=decide (a∈l)->k (.bool t) h):
 fW (λ_=>Tryz.prog) (λ_=>Instr.lookup 385 (.map (some m)) (.int .i64 a) false) h k:=by
 by_cases b:a∈l
 .exact BN bJs u3 q (key:=.int .i64 a) rfl (OI.2 b) (c true (by simp[b]))
 refine xD bJs u3 cJj q (key:=.int .i64 a) rfl (λp d e=>?_) (c false (by simp[b]));obtain⟨k,c,rfl⟩:=mQW.1 d;simp at e;exact b (e ▸ c)
theorem dZk{l:List Int}(q:Mp h m (.int .i64) (DT l))(b:a∉l)(K:∀h',Mp h' m (.int .i64) (DT (l++[a]))->Kp [m] h h'->(∀tys,bR tys h h')->k undef h'):
 fW (λ_=>Tryz.prog) (λ_=>do Instr.mapUpdate 385 (.map (some m)) (.int .i64 a) (.bool true);pure undef) h k:=by
 refine vz bJs u3 q (key:=.int .i64 a) rfl (λp d e=>?_) (λh' g f t=>K h' ?_ f t)
 .obtain⟨k,c,rfl⟩:=mQW.1 d;simp at e;exact b (e ▸ c)
 simpa[DT]using g
theorem Nq{c:List Value}{e:Nat}(g:h r=some (.cells (List.toArray c) e (0,0)))(q:Mp h m d l):m≠r:=λb=>by
 obtain⟨s,o,a,-⟩:=q.out;rw[b,g]at a;cases a
theorem Mp.obj{e:Nat}(q:Mp h m d l)(k:∀j o,h j=some o->(∀c fr,o≠.cells c e fr)->h' j=some o):Mp h' m d l:=by obtain⟨s,a,g,b⟩:=q.out;exact⟨s,a,k _ _ g (λc fr e=>by cases e),b⟩
theorem Vw{f I:Nat}(gr:h f=some (.cells #[.map (some I),.int .i64 x] 401 (0,0)))(rg:Rg h0 h I E)(hE:E.length<=2^37)(s:Int):
 Ct 298 [.pointer (some ⟨f,0,none⟩),.int .i64 s] h (λv h'=>Kp [f] h h'/\∃m x',v=.map (some m)/\h m=none/\h' f=some (.cells #[.map (some I),.int .i64 x'] 401 (0,0))/\Mp h' m (.int .i64) (DT (over E s))):=by
 have KJ:eF h f f=none:=dP h f;refine mQx fKF Tryz.func298 λA hA=>?_;cbv;intro m h1 hm e1;have l1:Le h h1:=by rw[e1];exact Le.set hm
 have g1:=(congrFun e1 m).trans ae;have aV:Mp h1 m (.int .i64) (DT []):=Mp.new g1;cbv;intro nb h2 gY e2;have l2:Le h1 h2:=by rw[e2];exact Le.set gY
 have g2:=(congrFun e2 nb).trans ae;have jZ:=l1.trans l2;have az:=jZ _ _ gr;have SK:=aV.kp (l2.kp []) (by simp);have Ap:Le (eF h f) h2:=(fY h f).trans jZ;have aW:eF h f nb=none:=((fY h f).trans l1).none gY;have jq:lQ 3 dE (eF h f) h2 (.slice (some ⟨nb,0,none⟩) 1 1) [s] 1:=
  ((Vy (s:=dE) g2 (x:=s) rfl).buf aW rfl).t (by simp)
 have YN:BP E []=E.length:=by simp[BP]
 cbv;refine aX.go (G:=Option Addr×Nat×Nat) (λg=>[(6,.v (.slice g.1 g.2.1 g.2.2))]) (λ_=>[])
  (λk g h'=>∃c d n p x',Kp [f] h h'/\h' f=some (.cells #[.map (some I),.int .i64 x'] 401 (0,0))/\Mp h' m (.int .i64) (DT c)/\lQ 3 dE (eF h f) h' (.slice g.1 g.2.1 g.2.2) d p/\
   k=BP E c+d.length/\k<=n/\cZr E n (c,d)=over E s/\p+BP E c<=E.length+1/\d.length<=p) (E.length+1) (some ⟨nb,0,none⟩,1,1) ⟨?_,?_,?_⟩ ⟨[],[s],E.length+2,1,x,MS Ap,az,SK,jq,by rw[YN];rfl,by omega,rfl,by rw[YN];omega,by simp⟩ ?_
 .cbv
 .cbv
 .cbv
 intro k g h' hI;cbv;obtain⟨c,d,n,p,x',kp,W,mp,S,hk,MP,Uc,hp,M⟩:=hI;obtain⟨gb,B,gc⟩:=g;have S:lQ 3 dE (eF h f) h' (.slice gb B gc) d p:=S;have An:B=d.length:=S.sl.len;generalize Q:A .aI .gtr (A .nat B) 0=u;have bd:=Q;rw[bO A,hA.nat]at Q;simp only[mQV]at Q;have hu:u=true->0<B:=λe=>by rw[e]at Q;have:=mQL Q;omega
 have PH:u=false->B=0:=λe=>by rw[e]at Q;have:=mQO Q;omega
 cases u with
 |false=>
  have h0:=PH rfl;have O:d=[]:=mXd (by omega);subst O;have aj:over E s=c:=by rw[<-Uc];cases n<;>rfl
  cbv;exact⟨kp,m,x',rfl,hm,W,by rw[aj];exact mp⟩
 |true=>
  have h0:=hu rfl;cases d with
  |nil=>simp at An;omega
  |cons a r=>
   cbv;rw[ai A];refine(eXy (og W rfl)).mono (λv h3 hR=>?_);obtain⟨z,y,rfl,aZ⟩:=hR;have e3:=aZ.exp W;have L:h3 f=some (.cells #[.map (some I),.int .i64 y] 401 (0,0)):=(congrFun e3 f).trans ae;have aH:=Nq W mp;have k3:Kp [f] h' h3:=by rw[e3];exact Kp.set (by simp)
   have t3:bR [3] h' h3:=by rw[e3];exact bR.set W (by decide)
   have N:=kp.trans k3;have au:=mp.kp k3 (by simpa using aH);have ry:=S.mono t3;have cJ:gb.isSome=true/\(0:Int)<=0/\(0:Int)<(B:Int):=⟨ry.sl.aT,by omega,by omega⟩;cbv;rw[ai A];refine mQw L ?_;cbv;refine⟨cJ,?_⟩;cbv;refine ry.sl.load (i:=0) (x:=a) rfl (n:=0) rfl (λcs q=>?_);have q:cs=[.int .i64 a]:=q;subst q;cbv;refine rg.fQo gr N a (λbb F cc qs=>?_);have qC:F=(dm E a).length:=qs.len;have bf:=qs.bound;obtain⟨X,TD⟩:∃X,n=X+1:=⟨n-1,by simp at hk;omega⟩;subst TD;have Aq:cZr E X ((dm E a).foldl dU (c,r))=over E s:=Uc;simp only[mQM]at hk M;cbv;refine aX.go (G:=Int×Option Addr×Nat×Nat) (λg=>[(30,.v (.int .i64 g.1)),(6,.v (.slice g.2.1 g.2.2.1 g.2.2.2))]) (λ_=>[])
    (λk2 g H=>∃j p,aS g.1 j/\k2=F-j/\j<=F/\Kp [f] h H/\H f=some (.cells #[.map (some I),.int .i64 y] 401 (0,0))/\Mp H m (.int .i64) (DT (((dm E a).take j).foldl dU (c,r)).1)/\
     lQ 3 dE (eF h f) H (.slice g.2.1 g.2.2.1 g.2.2.2) (a::(((dm E a).take j).foldl dU (c,r)).2) p/\
     BP E (((dm E a).take j).foldl dU (c,r)).1+(((dm E a).take j).foldl dU (c,r)).2.length<=BP E c+r.length/\
     p+BP E (((dm E a).take j).foldl dU (c,r)).1<=E.length+1/\(((dm E a).take j).foldl dU (c,r)).2.length+1<=p) F (0,gb,B,gc) ⟨?_,?_,?_⟩
     ⟨0,p,⟨rfl⟩,by omega,by omega,N,L,au,ry,mQD _,hp,M⟩ ?_
   .cbv
   .cbv
   .cbv
   intro k2 g H hI;cbv;obtain⟨j,p4,l,sJ,hj,J,R,Y,P,hM,K,aY⟩:=hI;obtain⟨z4,RQ,Z,D⟩:=g;have l:aS z4 j:=l;generalize C:((dm E a).take j).foldl dU (c,r)=st at *;have P:lQ 3 dE (eF h f) H (.slice RQ Z D) (a::st.2) p4:=P;have bg:Z=st.2.length+1:=P.sl.len;refine bh (λT=>?_) (λT=>?_)
   .have aP:=l.lt T;clear T;obtain⟨w,hw⟩:=mQA (dm E a) j;have lM:w∈dm E a:=mQz hw;have NM:((dm E a).take (j+1)).foldl dU (c,r)=dU st w:=by rw[mXt,hw,List.foldl_append,C];rfl
    cbv;refine⟨⟨qs.aT,l.ix aP⟩,?_⟩;cbv;refine(qs.mono (Kp.fQr J gr (by decide))).load hw l.eq (λcs q=>?_);have q:cs=[.int .i64 w]:=q;subst q;cbv;refine Mq Y w (λt O=>?_);cases t with
    |true=>
     have gK:A .not true=false:=by rw[hA.not];rfl
     have nW:dU st w=st:=by unfold dU;rw[<-O];rfl
     cbv;rw[gK];cbv;refine⟨F-(j+1),(_,RQ,Z,D),by omega,by constructor<;>cbv,j+1,p4,l.succ (A:=A),rfl,by omega,J,R,?_⟩
     rw[NM,nW];exact⟨Y,P,hM,K,aY⟩
    |false=>
     have gK:A .not false=true:=by rw[hA.not];rfl
     have PZ:w∉st.1:=mQO O.symm;have nW:dU st w=(st.1++[w],st.2++[w]):=by unfold dU;rw[<-O];rfl
     have ba:=Vu PZ lM;cbv;rw[gK];cbv;refine dZk Y PZ (λh5 aw k5 t5=>?_);have bj:=Nq R Y;have af:=t5 [401] _ _ _ _ (by decide) R;have Mw:Kp [f] h h5:=λb o V JD=>by
      have:=J b o V JD;refine k5 b o this ?_;intro e;simp at e;rw[e,hm]at V;cases V
     have qX:=P.mono (t5 _);cbv;intro Yr h6 TC e6;have U:Le h5 h6:=by rw[e6];exact Le.set TC
     have g6:=(congrFun e6 Yr).trans ae;have an:=U _ _ af;have aK:=aw.kp (U.kp []) (by simp);have ak:=Mw.trans (U.kp _);have al:Le (eF h f) h6:=λb o V=>by
      unfold eF at V;split at V
      .cases V
      rename_i ch;exact ak b o V (by simpa using ch)
     cbv;refine(qX.mono (U.t _)).append (bA (s:=dE) g6 (x:=w) rfl) (by decide) rfl (by decide) (by omega) (by omega) (by omega) al (λmm b' c' h7 sf l7 t7 mP k7=>?_);have ag:=t7 [401] (by decide) _ _ _ _ (by decide) an;have ar:=Mp.obj aK k7;have DA:Kp [f] h h7:=MS l7;cbv;refine⟨F-(j+1),(_,b',mm,c'),by omega,by constructor<;>cbv,j+1,p4+1,l.succ (A:=A),rfl,by omega,DA,ag,?_⟩
     rw[NM,nW];refine⟨ar,by simpa using mP,?_,?_,?_⟩
     .simp only[mQy,mQG];omega
     .simp only;omega
     simp only[mQy,mQG];omega
   have lN:=l.ge T;have bc:j=F:=by omega
   rw[show(dm E a).take j=dm E a from mXa (by omega)]at C;have KS:aS (1:Int) 1:=⟨rfl⟩;have rQ:(0:Int)<=1/\(1:Int)<=(Z:Int):=by omega
   have ab:=P.tail (A:=A) KS (gA (A:=A) (n:=Z) KS) (gA (A:=A) (n:=D) KS);rw[C]at Aq;cbv;refine⟨rQ,?_⟩;cbv;refine⟨BP E st.1+st.2.length,(_,_,_),by omega,⟨?_,?_,?_⟩,st.1,st.2,X,p4,y,J,R,Y,ab,rfl,by omega,Aq,K,by omega⟩
   .cbv;exact⟨rfl,True.intro⟩
   .cbv
   cbv
structure eXz(E:List (Int×Int))(s v:Int)(t:Bool):Prop where
 out:(t=false/\v=0/\s∉over E s)\/(t=true/\s∈over E s/\s<=v/\(v=s\/(v∈over E s/\s∈over E v))/\∀k∈over E s,s∈over E k->k<=v)
theorem eXz.lXt{s v f:Int}{t l:Bool}(a:eXz E s v t)(b:eXz E s f l):v=f/\t=l:=by
 rcases a.out with⟨a1,a2,i⟩|⟨a1,a2,i,m,n⟩
 .rcases b.out with⟨c,d,e⟩|⟨c,d,e,j,k⟩
  .exact⟨by rw[a2,d],by rw[a1,c]⟩
  exact absurd d i
 rcases b.out with⟨c,d,e⟩|⟨c,d,e,j,k⟩
 .exact absurd a2 e
 refine⟨?_,by rw[a1,c]⟩;have h:v<=f:=by
  rcases m with rfl| ⟨h,g⟩
  .exact e
  exact k v h g
 have g:f<=v:=by
  rcases j with rfl| ⟨h,g⟩
  .exact i
  exact n f h g
 omega
def jz(E:List (Int×Int))(s:Int)(l:List Int)(m:Int):Int:=l.foldl (λm k=>if decide (k>m)&&decide (s∈over E k)then k else m) m
def dG(E:List (Int×Int))(s:Int):Int×Bool:=if decide (s∈over E s)=true then(jz E s (over E s) s,true)else(0,false)
theorem wZ(E:List (Int×Int))(s:Int):∀(l:List Int) (m:Int),m<=jz E s l m/\(jz E s l m=m\/(jz E s l m∈l/\s∈over E (jz E s l m)))/\∀k∈l,s∈over E k->k<=jz E s l m
 | [],m=>⟨mZa _,.inl rfl,λk a=>by cases a⟩
 |x::r,m=>by
  have e:jz E s (x::r) m=jz E s r (if decide (x>m)&&decide (s∈over E x)then x else m):=rfl;rw[e];by_cases b:(decide (x>m)&&decide (s∈over E x))=true
  .rw[if_pos b];simp at b;obtain⟨f,h,g⟩:=wZ E s r x;refine⟨by omega,?_,λk a d=>?_⟩
   .rcases h with h| ⟨h,c⟩
    .right;rw[h];exact⟨by simp,b.2⟩
    right;exact⟨by simp[h],c⟩
   rcases mQI.1 a with rfl|a
   .exact f
   exact g k a d
  rw[if_neg b];simp at b;obtain⟨f,h,g⟩:=wZ E s r m;refine⟨f,?_,λk a d=>?_⟩
  .rcases h with h| ⟨h,c⟩
   .exact .inl h
   right;exact⟨by simp[h],c⟩
  rcases mQI.1 a with rfl|a
  .rcases Int.lt_or_le m k with P|hle
   .exact absurd d (b P)
   omega
  exact g k a d
theorem rA(E:List (Int×Int))(s:Int):eXz E s (dG E s).1 (dG E s).2:=by
 constructor;unfold dG;by_cases h:s∈over E s
 .rw[if_pos (by simpa using h)];obtain⟨a,b,c⟩:=wZ E s (over E s) s;exact .inr ⟨rfl,h,a,b,c⟩
 rw[if_neg (by simpa using h)];exact .inl ⟨rfl,rfl,h⟩
theorem eXz.eq{s v:Int}{t:Bool}(a:eXz E s v t):v=(dG E s).1/\t=(dG E s).2:=a.lXt (rA E s)
theorem Rg.gen(q:Rg h0 h m E){bs:List Nat}(k:Kp bs h h')(f:m∉bs)(t:bR [3] h h'):Rg h0 h' m E:=by obtain⟨G,c,d,a,e⟩:=q.out;exact⟨G,c.kp k f,d,λg b=>⟨(a g b).1,(a g b).2.mono t⟩,e⟩
theorem Rg.map(q:Rg h0 h m E):∃l,Mp h m (.int .i64) l:=by obtain⟨G,g,-⟩:=q.out;exact⟨_,g⟩
theorem JO{W:List cg}{b1 b2:Option Addr}{S c1 T c2:Nat}(q1:Sl 201 bG h (.slice b1 S c1) H)(q2:Sl 201 bG h (.slice b2 T c2) W)(lG:S<=2^18)(mY:T<=2^18)(s:Int):
 Ct 270 [.agg #[.slice b1 S c1,.slice b2 T c2],.int .i64 s] h (λv h'=>Le h h'/\∃z t,v=.tuple #[.int .i64 z,.bool t]/\eXz (da H W) s z t):=by
 have hE:(da H W).length<=2^37:=by have:=Ew H W;have:=DP (show W.length<=2^18 by rw[<-q2.len];exact mY) (show H.length<=2^18 by rw[<-q1.len];exact lG);omega
 generalize af:da H W=E at *;refine mQx lZc Tryz.func270 λA hA=>?_;cbv;refine(aZj q1 q2 lG mY).mono (λv c hR=>?_);obtain⟨l1,n,r,rfl,KJ,aV,gr,V⟩:=hR;rw[af]at V;cbv;refine(Vw gr V hE s).mono (λv d hR=>?_);obtain⟨k2,m,x2,rfl,hm,al,Y⟩:=hR;have l2:Le h d:=l1.dJ (by simpa using KJ) k2;have ay:Rg h d r E:=by obtain⟨l,N⟩:=V.map;exact V.gen k2 (by simpa using Nq gr N) (Kp.fQr k2 gr (by decide))
 cbv;refine Mq Y s (λt I=>?_);cases t with
 |false=>
  have gK:A .not false=true:=by rw[hA.not];rfl
  have hs:s∉over E s:=mQO I.symm;cbv;rw[gK];cbv;exact⟨l2,0,false,rfl,⟨.inl ⟨rfl,rfl,hs⟩⟩⟩
 |true=>
  have gK:A .not true=false:=by rw[hA.not];rfl
  have hs:s∈over E s:=mQL I.symm;cbv;rw[gK];cbv;refine XT bJs Y (λj h3 au M az=>?_);have aj:=M _ _ al;have aH:=Y.kp (M.kp []) (by simp);have ag:=ay.gen (M.kp []) (by simp) (M.t _);have rL:=l2.trans M;cbv;refine aX.go (G:=Int) (λz=>[(8,.v (.int .i64 z))]) (λ_=>[(2,[.slice b1 S c1,.slice b2 T c2])])
   (λk z h'=>∃left b x',Le h h'/\It h' j m left b/\k=left.length/\h' n=some (.cells #[.map (some r),.int .i64 x'] 401 (0,0))/\Rg h h' r E/\
    s<=z/\(z=s\/(z∈over E s/\s∈over E z))/\(∀p∈left,p∈DT (over E s))/\∀k∈over E s,s∈over E k->k<=z\/(Value.int .i64 k,Value.bool true)∈left) _ s ⟨?_,?_,?_⟩
    ⟨_,_,x2,rL,az,rfl,aj,ag,mZa _,.inl rfl,λp F=>F,λk i _=>.inr (OI.2 i)⟩ ?_
  .cbv
  .cbv
  .cbv
  intro k z h' hI;cbv;obtain⟨left,b,x',D,Q,i,Wy,L,jV,dL,ui,U⟩:=hI;have aw:j≠n:=λe=>by
   obtain⟨_,_,_,_,_,_,g,_⟩:=Q.out;rw[e,Wy]at g;cases g
  have MQ:m≠n:=λe=>by
   obtain⟨_,_,_,_,_,g,_⟩:=Q.out;rw[e,Wy]at g;cases g
  have ar:r≠j:=λe=>by
   obtain⟨_,_,_,_,_,_,g,_⟩:=Q.out;obtain⟨l,N⟩:=L.map;obtain⟨_,_,g',_⟩:=N.out;rw[e,g]at g';cases g'
  refine aXW Q (λhl=>?_) (λkey val f h4 fZ q eM aP K k4 t4=>?_)
  .cbv;refine⟨D,z,true,rfl,⟨.inr ⟨rfl,hs,jV,dL,λk i Z=>?_⟩⟩⟩;rcases U k i Z with c|c
   .exact c
   rw[hl]at c;cases c
  have R:=t4 [401] _ _ _ _ (by decide) Wy;have fV:=ui _ fZ;obtain⟨w,hw,he⟩:=mQW.1 fV;cases he;have l4:Le h h4:=D.dJ (by simpa using l2.none au) k4;have J:=L.gen k4 (by simpa using ar) (t4 _);have y:∀(a:ad) (x:Int),Le h a->It a j m f (some (.int .i64 w,.bool true))->a n=some (.cells #[.map (some r),.int .i64 x] 401 (0,0))->Rg h a r E->((s∈over E w)->w<=z)->
   ∃left b x',Le h a/\It a j m left b/\f.length=left.length/\a n=some (.cells #[.map (some r),.int .i64 x'] 401 (0,0))/\Rg h a r E/\
    s<=z/\(z=s\/(z∈over E s/\s∈over E z))/\(∀p∈left,p∈DT (over E s))/\∀k∈over E s,s∈over E k->k<=z\/(Value.int .i64 k,Value.bool true)∈left:=
   λa x a1 a2 a3 a4 a5=>⟨f,_,x,a1,a2,rfl,a3,a4,jV,dL,λp F=>ui p (eM p F),λk i Z=>by
    rcases U k i Z with c|c
    .exact .inl c
    rcases q _ c with d|d
    .have:k=w:=by cases d;rfl
     subst this;exact .inl (a5 Z)
    exact .inr d⟩
  have more:∀(a:ad) (x:Int),Le h a->It a j m f (some (.int .i64 w,.bool true))->a n=some (.cells #[.map (some r),.int .i64 x] 401 (0,0))->Rg h a r E->s∈over E w->z<w->
   ∃left b x',Le h a/\It a j m left b/\f.length=left.length/\a n=some (.cells #[.map (some r),.int .i64 x'] 401 (0,0))/\Rg h a r E/\
    s<=w/\(w=s\/(w∈over E s/\s∈over E w))/\(∀p∈left,p∈DT (over E s))/\∀k∈over E s,s∈over E k->k<=w\/(Value.int .i64 k,Value.bool true)∈left:=
   λa x a1 a2 a3 a4 a5 a6=>⟨f,_,x,a1,a2,rfl,a3,a4,by omega,.inr ⟨hw,a5⟩,λp F=>ui p (eM p F),λk i Z=>by
    rcases U k i Z with c|c
    .left;omega
    rcases q _ c with d|d
    .have:k=w:=by cases d;rfl
     subst this;exact .inl (mZa _)
    exact .inr d⟩
  generalize O:A .aI .gtr w z=u;have fg:=O;rw[bO A]at O;cbv;refine XX K ?_;cbv;rw[fg];cases u with
  |false=>
   have B:=y h4 x' l4 K R J (λ_=>by have:=mQO O;omega);cbv;refine⟨f.length,_,by omega,by constructor<;>cbv,B⟩
  |true=>
   have wA:z<w:=mQL O;cbv;refine(Vw R J hE w).mono (λv a hR=>?_);obtain⟨P,m5,x,rfl,aK,o,ak⟩:=hR;have l5:Le h a:=l4.dJ (by simpa using KJ) P;have C:Rg h a r E:=by obtain⟨l,N⟩:=J.map;exact J.gen P (by simpa using Nq R N) (Kp.fQr P R (by decide))
   have X:=K.kp P (by simpa using aw) (by simpa using MQ);cbv;refine Mq ak s (λt I=>?_);cases t with
   |true=>
    have B:=more a x l5 X o C (mQL I.symm) wA;cbv;refine⟨f.length,_,by omega,by constructor<;>cbv,B⟩
   |false=>
    have an:s∉over E w:=mQO I.symm;have B:=y a x l5 X o C (λab=>absurd ab an);cbv;refine⟨f.length,_,by omega,by constructor<;>cbv,B⟩
theorem lA.HF{b d t w:Nat}{T:List cW}{F:List cg}{a:Nat}{p q f g:Option Addr}{C D s l:Nat}{o:Int}
 (u:h c=some (.cells #[.slice (some ⟨b,0,none⟩) n t,.slice (some ⟨d,0,none⟩) a w,.slice p C r,.slice q D s,.int .u32 o,.int .i32 0,.int .u32 0,.int .i64 e] 130 (0,0)))
 (B:(o=0/\e=0)\/(o=1/\e≠0)) (v:n=T.length) (x:fX 51 ef h b t T) (y:a=W.length) (z:fX 55 cX h d w W) (E:Sl 201 bG h (.slice f l i) H) (G:Sl 201 bG h (.slice g m j) F)
 (k:h'=bU h c (.cells #[.slice (some ⟨b,0,none⟩) n t,.slice (some ⟨d,0,none⟩) a w,.slice f l i,.slice g m j,.int .u32 o,.int .i32 0,.int .u32 0,.int .i64 e] 130 (0,0))):
 Kp [c] h h'/\lA h' c b d t w T W H F e:=by
 have lt:∀tys,130∉tys->bR tys h h':=λtys A=>by rw[k];exact bR.set u A
 refine⟨by rw[k];exact Kp.set (by simp),n,a,f,l,i,g,m,j,o,by rw[k];exact ae,B,v,x.mono (lt _ (by decide)),y,z.mono (lt _ (by decide)),E.mono (lt _ (by decide)),G.mono (lt _ (by decide))⟩
theorem lA.elim{l t w:Nat}{T:List cW}{r:List cg}(q:lA h c l m t w T W H r e){p:Prop}
 (k:∀(n g:Nat) (b:Option Addr) (i d:Nat) (a:Option Addr) (j f:Nat) (o:Int),h c=some (.cells #[.slice (some ⟨l,0,none⟩) n t,.slice (some ⟨m,0,none⟩) g w,.slice b i d,.slice a j f,.int .u32 o,.int .i32 0,.int .u32 0,.int .i64 e] 130 (0,0))->
  ((o=0/\e=0)\/(o=1/\e≠0))->n=T.length->fX 51 ef h l t T->g=W.length->fX 55 cX h m w W->Sl 201 bG h (.slice b i d) H->Sl 201 bG h (.slice a j f) r->
  ik h (.agg #[.slice (some ⟨l,0,none⟩) n t,.slice (some ⟨m,0,none⟩) g w,.slice b i d,.slice a j f]) ⟨T,W.map (·.1),H,r⟩->p):p:=by
 obtain⟨n,g,b,i,d,a,j,f,o,A,B,s,u,v,x,y,z⟩:=q.out;exact k n g b i d a j f o A B s u v x y z ⟨_,_,_,_,_,_,_,_,_,_,_,_,W,rfl,u.sl s,x.sl v,y,z,rfl⟩
theorem fi{d:DB}{v:Value}(q:ik h v d)
 (r:∀h' b n f a m g c o i e p j,Le h h'->ik h' (.agg #[.slice b n f,.slice a m g,.slice c o i,.slice e p j]) d->k (.agg #[.slice b n f,.slice a m g,.slice c o i,.slice e p j]) h'):Ct 40 [v] h k:=
 (tL q).mono (λv h' hR=>by
  obtain⟨l,hd⟩:=hR;obtain⟨b,n,f,a,m,g,c,o,i,e,p,j,s⟩:=hd.form;rw[s]at hd |-;exact r h' _ _ _ _ _ _ _ _ _ _ _ _ l hd)
theorem pS{d:DB}{v:Value}(q:ik h v d)
 (i:∀h' c t b a e W,Le h h'->h c=none->h t=none->h b=none->c≠t->c≠b->W=(d.aq.map λw=>(w,true))->a=d.az.length->e=W.length->lA h' c t b a e d.az W d.holds d.waits 0->k (.pointer (some ⟨c,0,none⟩)) h'):Ct 38 [v] h k:=
 (Nv q).mono (λv h' hR=>by
  obtain⟨l,c,t,b,a,e,W,j,g,B,A,F,Z,f,Q,U,cs⟩:=hR;rw[j];exact i h' c t b a e W l g B A F Z f Q U cs)
theorem aXu{t:cW}(q:ef.R h cs t){p:List Value->Prop}(k:∀(b:Option Addr) (n c:Nat) (a:Option Addr) (e d:Nat),Sl 155 bI h (.slice b n c) t.S.cols->Sl 84 aD h (.slice a e d) t.rows->p [.string t.S.name,.slice b n c,.int .i64 t.S.key,.bool t.S.only,.slice a e d]):p cs:=by obtain⟨b,n,c,a,e,d,rfl,f,g⟩:=q;exact k b n c a e d f g
theorem xU[bM A]{len:Nat}{xs:List cW}(q:Sl 51 ef h (.slice b len cap) xs){t:cW}(hx:xs[i]? =some t){n:Int}(l:n=(i:Int)){k:List Value->Prop}
 (j:∀(a:Option Addr) (f d:Nat) (c:Option Addr) (g e:Nat),Sl 155 bI h (.slice a f d) t.S.cols->Sl 84 aD h (.slice c g e) t.rows->k [.string t.S.name,.slice a f d,.int .i64 t.S.key,.bool t.S.only,.slice c g e]):Bn h (A.mS b n ef.n) ef.n k:=
 q.load hx l (λcs y=>aXu y j)
theorem qj[bM A]{len:Nat}(q:Sl 55 cX h (.slice b len cap) xs)(hx:xs[i]? =some w){n:Int}(j:n=(i:Int)){k:List Value->Prop}
 (f:∀(d:Option Addr) (a c:Nat),Sl 137 dI h (.slice d a c) w.1.log->(w.2=true->c=a)->(∀h' e,Le h h'->e [.slice d a c]->Bn h' (A .off (A .mS b n 3) 1) 1 e)->k [.slice d a c]):Bn h (A .off (A .mS b n 3) 1) 1 k:=
 q.vD (s:=cX) hx j (o:=1) (m:=1) (by decide) (λcs y g=>by
  obtain⟨d,a,c,r,u,t,rfl,l,v,p⟩:=y;exact f d a c l p g)
theorem HJ[bM A]{len:Nat}(q:Sl 55 cX h (.slice b len cap) xs)(hx:xs[i]? =some w){n:Int}(p:n=(i:Int)){k:List Value->Prop}
 (l:∀(a:Option Addr) (d c:Nat),Sl 150 dN h (.slice a d c) w.1.marks->(∀h' e,Le h h'->e [.slice a d c]->Bn h' (A .off (A .mS b n 3) 2) 1 e)->k [.slice a d c]):Bn h (A .off (A .mS b n 3) 2) 1 k:=
 q.vD (s:=cX) hx p (o:=2) (m:=1) (by decide) (λcs y g=>by
  obtain⟨a,d,c,f,r,j,rfl,u,t,v⟩:=y;exact l f r j t g)
theorem Wi{s d w:Nat}{T:List cW}{a:List cg}(q:lA h c r s d w T W H a e){p k:Nat}
 (g:h p=some (.cells #[.pointer (some ⟨c,0,none⟩)] 112 (0,0))) (E:h k=some (.cells #[.int .i64 hd.s] 3 (0,0))) (F:h m=some (.cells #[.string hd.table] 9 (0,0))) (G:h n=some (.cells #[.bool hd.x] 4 (0,0)))
 (hH:H.length<=2^18) (K:a.length<=2^18):
 Ct 268 [.pointer (some ⟨p,0,none⟩),.pointer (some ⟨k,0,none⟩),.pointer (some ⟨m,0,none⟩),.pointer (some ⟨n,0,none⟩)] h
  (λv h'=>Kp [c] h h'/\∃t,v=.bool t/\t=bP H hd/\lA h' c r s d w T W (cV H hd) (df H a hd) e):=by
 obtain⟨n1,n2,N,n3,R,O,n4,S,o,f,y,z,B,C,D,i,j⟩:=q.out;obtain⟨I,J,hx⟩:=hd;refine mQx lZe Tryz.func268 λA Z=>?_;cbv;refine mQw g ?_;cbv;refine mQw g ?_;cbv;rw[ai A];rw[ai A];refine mQw f ?_;cbv;refine mQw E ?_;cbv;refine mQw F ?_;cbv;refine mQw G ?_;cbv;refine(eXs i j (by have:=i.len;omega) (by have:=j.len;omega) ⟨I,J,hx⟩).mono (λv X hR=>?_);obtain⟨l,P,n5,U,Q,n6,V,t,rfl,L,M,x⟩:=hR;cbv;refine mQw (l _ _ g) ?_;cbv;refine⟨⟨_,rfl,rfl⟩,?_⟩;cbv;rw[ai A];rw[ai A];refine ja (l _ _ f) (by simp) (λY u=>?_);have b:=lA.HF (l _ _ f) y z (B.mono (l.t _)) C (D.mono (l.t _)) L M u;cbv;exact⟨(l.kp _).trans b.1,t,rfl,x,b.2⟩
def dQ(W:List (fJ×Bool))(s:Int):List Int:=W.map λx=>IntKind.i64.wrap (x.1.s-s)
def aQ(T:List cW)(name:ByteArray):List Int:=T.map λx=>eC x.S.name name
theorem Dq:(cV H hd).length<=H.length+1:=by
 unfold cV;split
 .split
  .omega
  split
  .rw[mXv];omega
  simp
 omega
theorem gZ(l:List cg)(s:Int):(bX l s).length<=l.length:=mZd _ _
def jb:ByteArray:=⟨#[]⟩
def dK(r:Row)(t:cW):cW×dV×Int:=((bK t r).1,⟨jb,1,r⟩,(bK t r).2)
def dR(k:cO)(t:cW):cW×dV×Int:=if t.S.only=true then(t,⟨jb,0,[]⟩,19)else((bH t k).1,⟨jb,2,(bH t k).2.1⟩,(bH t k).2.2)
theorem eKw{nm:ByteArray}{r:Row}{y s:Option Addr}{B z p t x:Nat}(F:Sl 155 bI h (.slice y B z) cols)(E:Sl 84 aD h (.slice s p t) rows)
 (u:h x=some (.cells #[.slice b n c] 84 (0,0))) (q:Sl 86 bq h (.slice b n c) r) (D:p<=2^37):
 Ct 150 [.agg #[.string nm,.slice y B z,.int .i64 key,.bool only,.slice s p t],.pointer (some ⟨x,0,none⟩)] h (λv h'=>Le h h'/\∃a m k d o g f w i e T C,v=.tuple #[.agg #[.string nm,.slice a m k,.int .i64 key,.bool only,.slice d o g],.agg #[.string jb,.int .i64 C.op,.slice f w i],.int .i64 e]/\
  Sl 155 bI h' (.slice a m k) cols/\Sl 84 aD h' (.slice d o g) T/\Sl 86 bq h' (.slice f w i) C.row/\(⟨⟨⟨nm,cols,key,only⟩,T⟩,C,e⟩:cW×dV×Int)=dK r ⟨⟨nm,cols,key,only⟩,rows⟩):=by
 refine mQx lZr Tryz.func150 λA M=>?_;cbv;refine mQw u ?_;cbv;refine(cJx (nm:=nm) (key:=key) (only:=only) F E q D).mono (λv K hR=>?_);obtain⟨l,a,m,k,d,o,g,e,T,rfl,G,H,I⟩:=hR;cbv;refine mQw (l _ _ u) ?_;cbv;refine(aZF (q.mono (l.t _))).mono (λv L hR=>?_);obtain⟨j,f,i,rfl,J⟩:=hR;cbv;exact⟨l.trans j,_,_,_,_,_,_,_,_,_,e,T,⟨jb,1,r⟩,rfl,G.mono (j.t _),H.mono (j.t _),J,by unfold dK;rw[<-I]⟩
theorem dXu{nm:ByteArray}{p l:Option Addr}{u t:Nat}(s:Sl 155 bI h (.slice p u t) cols)(q:Sl 84 aD h (.slice l j m) rows)
 (w:h r=some (.cells #[.int .i64 kv.k,.int .i64 kv.n,.string kv.s] 86 (0,0))) (x:j<=2^37):
 Ct 236 [.agg #[.string nm,.slice p u t,.int .i64 key,.bool only,.slice l j m],.pointer (some ⟨r,0,none⟩)] h (λv h'=>Le h h'/\∃b n k a g d c i f e T C,v=.tuple #[.agg #[.string nm,.slice b n k,.int .i64 key,.bool only,.slice a g d],.agg #[.string jb,.int .i64 C.op,.slice c i f],.int .i64 e]/\
  Sl 155 bI h' (.slice b n k) cols/\Sl 84 aD h' (.slice a g d) T/\Sl 86 bq h' (.slice c i f) C.row/\(⟨⟨⟨nm,cols,key,only⟩,T⟩,C,e⟩:cW×dV×Int)=dR kv ⟨⟨nm,cols,key,only⟩,rows⟩):=by
 generalize o:dR kv ⟨⟨nm,cols,key,only⟩,rows⟩=D;refine mQx lZh Tryz.func236 λA I=>?_;cases only with
 |true=>cbv;exact⟨Le.refl _,_,_,_,_,_,_,_,_,_,19,rows,⟨jb,0,[]⟩,rfl,s,q,Sl.nil,by rw[<-o];rfl⟩
 |false=>cbv;refine mQw w ?_;cbv;refine(aXy (nm:=nm) (key:=key) (only:=false) s q x kv).mono (λv H hR=>?_);obtain⟨z,b,n,k,a,g,d,c,i,f,e,T,R,y,B,E,F,G⟩:=hR;rw[y];cbv;exact⟨z,_,_,_,_,_,_,_,_,_,e,T,⟨jb,2,R⟩,rfl,B,E,F,by rw[<-o];unfold dR;rw[<-G];rfl⟩
theorem aZr{nm:ByteArray}{r:Row}{x t:Option Addr}{z y s u w:Nat}(G:Sl 155 bI h (.slice x z y) cols)(F:Sl 84 aD h (.slice t s u) rows)
 (A:h w=some (.cells #[.slice b n c] 84 (0,0))) (q:Sl 86 bq h (.slice b n c) r) (D:s<=2^37) 
 (B:∀h' a m g d o i f p j e T C,Le h h'->Sl 155 bI h' (.slice a m g) cols->Sl 84 aD h' (.slice d o i) T->Sl 86 bq h' (.slice f p j) C.row->(⟨⟨⟨nm,cols,key,only⟩,T⟩,C,e⟩:cW×dV×Int)=dK r ⟨⟨nm,cols,key,only⟩,rows⟩->
  k (.tuple #[.agg #[.string nm,.slice a m g,.int .i64 key,.bool only,.slice d o i],.agg #[.string jb,.int .i64 C.op,.slice f p j],.int .i64 e]) h'):
 Ct 150 [.agg #[.string nm,.slice x z y,.int .i64 key,.bool only,.slice t s u],.pointer (some ⟨w,0,none⟩)] h k:=
 (eKw (nm:=nm) (key:=key) (only:=only) G F A q D).mono (λv h' hR=>by
  obtain⟨l,a,m,g,d,o,i,f,p,j,e,T,C,E,H,I,J,K⟩:=hR;rw[E];exact B h' a m g d o i f p j e T C l H I J K)
theorem UY{nm:ByteArray}{s o:Option Addr}{t q p:Nat}(A:Sl 155 bI h (.slice s t q) cols)(z:Sl 84 aD h (.slice o m p) rows)
 (u:h r=some (.cells #[.int .i64 kv.k,.int .i64 kv.n,.string kv.s] 86 (0,0))) (x:m<=2^37) 
 (w:∀h' b n d a i f c j g e T C,Le h h'->Sl 155 bI h' (.slice b n d) cols->Sl 84 aD h' (.slice a i f) T->Sl 86 bq h' (.slice c j g) C.row->(⟨⟨⟨nm,cols,key,only⟩,T⟩,C,e⟩:cW×dV×Int)=dR kv ⟨⟨nm,cols,key,only⟩,rows⟩->
  k (.tuple #[.agg #[.string nm,.slice b n d,.int .i64 key,.bool only,.slice a i f],.agg #[.string jb,.int .i64 C.op,.slice c j g],.int .i64 e]) h'):
 Ct 236 [.agg #[.string nm,.slice s t q,.int .i64 key,.bool only,.slice o m p],.pointer (some ⟨r,0,none⟩)] h k:=
 (dXu (nm:=nm) (key:=key) (only:=only) A z u x).mono (λv h' hR=>by
  obtain⟨l,b,n,d,a,i,f,c,j,g,e,T,C,y,B,D,E,F⟩:=hR;rw[y];exact w h' b n d a i f c j g e T C l B D E F)
end Go.S
