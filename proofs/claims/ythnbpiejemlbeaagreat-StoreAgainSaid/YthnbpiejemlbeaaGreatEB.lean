import Derived.Test.YthnbpiejemlbeaaGreatEA
set_option linter.all false
set_option maxRecDepth 100000
namespace Go.S
open Go.Sx Go.Proofs
variable {A:Ar}{only:Bool}{nm:ByteArray}{a e key:Int}{E:List (Int×Int)}{xs:List (eJ×Bool)}{o r:List Row}{cs:List Value}{H:List bZ}{cols:List jR}{c cap f i j m n wb:Nat}{b:Option Addr}{d:TypeDesc}{k:Value->ad->Prop}{h h' h0:ad}{hd:bZ}{w:eJ×Bool}{kv:jq}
def jh(w:bZ)(H:List bZ):List (Int×Int):=(H.filter (eE w)).map λh=>(w.s,h.s)
def cN(H W:List bZ):List (Int×Int):=W.flatMap λw=>jh w H
def dv(E:List (Int×Int))(a:Int):List Int:=(E.filter λp=>decide (p.1=a)).map (·.2)
theorem xN{b:Int}:dv (E++[(a,b)]) a=dv E a++[b]:=by simp[dv]
theorem oq{b c:Int}(h:c≠a):dv (E++[(a,b)]) c=dv E c:=by simp[dv,Ne.symm h]
theorem LM(E:List (Int×Int))(a:Int):(dv E a).length<=E.length:=by
 grind [dv]
structure dQR where
 a:Int
 nb:Nat
 cap:Nat
structure Rg(h0 h:ad)(m:Nat)(E:List (Int×Int)):Prop where
 out:∃G:List dQR,Mp h m (.int .i64) (G.map λg=>(.zI g.a,.slice (some ⟨g.nb,0,none⟩) (dv E g.a).length g.cap))/\(G.map (·.nb)).Nodup/\(∀g∈G,h0 g.nb=none/\dt 3 dK h g.nb g.cap (dv E g.a))/\∀a,dv E a≠[]->∃g∈G,g.a=a
theorem LD:Tryz.prog.underlying 502=some (.map 3 68):=by kernel_rfl
theorem aZI:Tryz.prog.underlying 470=some (.map 3 4):=by kernel_rfl
theorem u3:Tryz.prog.underlying 3=some (.int .i64):=by kernel_rfl
theorem OR(w:World):(zeroValue 68).run Tryz.prog w=.ok (.zN) w:=by
 have h:((Tryz.prog.info? 68).bind (·.zero))=some (.zN):=by kernel_rfl
 cases a:Tryz.prog.info? 68 with
 |none=>grind
 |some i=>rw[a]at h;simp at h;simp[zeroValue,typeInfo,a,h]
theorem Rg.kp(q:Rg h0 h m E){bs:List Nat}(k:Kp bs h h')(j:m∉bs)(i:∀b∈bs,h0 b≠none):Rg h0 h' m E:=by obtain⟨G,d,e,a,f⟩:=q.out;exact⟨G,d.kp k j,e,λg c=>⟨(a g c).1,(a g c).2.kp k (λhx=>i _ hx (a g c).1) (λ_ _ _ _ hx=>by cases hx)⟩,f⟩
def km(h:ad)(n:Nat):ad:=λb=>if b=n then none else h b
theorem uM(h:ad)(n:Nat):Le (km h n) h:=λb o q=>by
 grind [km]
theorem oD(h:ad)(n:Nat):km h n n=none:=by unfold km;grind
theorem Kt(l:Le (km h n) h'):Kp [n] h h':=λb o q a=>l b o (by grind [km])
theorem Ja{b:Nat}(q:km h n b=none):b=n\/h b=none:=by
 grind [km]
structure Tk(h0 h:ad)(m:Nat)(E:List (Int×Int))(a:Int)(v:Value):Prop where
 out:∃hb,Le h0 hb/\Le hb h/\bA 3 dK hb h v (dv E a)/\
  ∀h' v' x,Le hb h'->bA 3 dK hb h' v' (dv E a++[x])->∀k:Value->ad->Prop,(∀tN,Rg h0 tN m (E++[(a,x)])->Kp [m] h' tN->(∀tys,cX tys h' tN)->k undef tN)->
   fL (λ_=>Tryz.prog) (λ_=>do Instr.mapUpdate 502 (.map (some m)) (.zI a) v';pure undef) h' k
theorem Mw{e:Nat}{l:List (Value×Value)}{a:Type}{s:Sh a}{xs:List a}(q:Mp h m d l)(o:dt e s h n cap xs):n≠m:=λi=>by
 obtain⟨b,k,g,-⟩:=q.out;obtain⟨c,f,-⟩:=o.out
 grind
theorem Rg.tk(q:Rg h0 h m E)(F:Le h0 h)(ED:h0 m=none)(a:Int)(hk:∀b n c,Tk h0 h m E a (.slice b n c)->k (.slice b n c) h):
 fL (λ_=>Tryz.prog) (λ_=>Instr.lookup 502 (.map (some m)) (.zI a) false) h k:=by
 obtain⟨G,y,N,z,Y⟩:=q.out;have Ko:=y.Za;by_cases O:∃g∈G,g.a=a
 .obtain⟨g,u,rfl⟩:=O;obtain⟨i,hi⟩:=kXT u;obtain⟨ic,vg⟩:=HH.1 hi;refine AO LD u3 y (key:=.zI g.a) rfl (kZd.2 ⟨g,u,rfl⟩) (hk _ _ _ ⟨km h g.nb,?_,uM h g.nb,?_,?_⟩)
  .intro b o hb;have V:b≠g.nb:=λe=>gg
   unfold km;rw[if_neg V];exact F b o hb
  .exact(z g u).2.buf (oD h g.nb) rfl
  intro h' v' x D H k' I;have V:g.nb≠m:=Mw y (z g u).2;have kp:=Kt D;have W:Mp h' m (.int .i64) _:=y.kp kp (by simpa using Ne.symm V);rcases H.out with⟨b0,e1,t⟩|⟨s,cap,e1,t,o⟩
  .have:=congrArg List.length t;simp at this
  subst e1;have fN:(G.map λg=>(Value.zI g.a,Value.slice (some ⟨g.nb,0,none⟩) (dv E g.a).length g.cap))[i]? =some (.zI g.a,.slice (some ⟨g.nb,0,none⟩) (dv E g.a).length g.cap):=by
   grind
  have X:∀j (d:dQR),G[j]? =some d->j≠i->d.a≠g.a/\d.nb≠g.nb:=λj d f U=>by
   obtain⟨pE,Wv⟩:=HH.1 f;constructor
   .intro R;have p:=kJJ.1 Ko
    grind
   intro R;have p:=kJJ.1 N
   grind
  refine aJd LD u3 W (key:=.zI g.a) rfl fN (λS Py v w=>I S ⟨G.set i ⟨g.a,s,cap⟩,?_,?_,?_,?_⟩ v w)
  .have:(G.set i ⟨g.a,s,cap⟩).map (λ(d:dQR)=>(Value.zI d.a,Value.slice (some ⟨d.nb,0,none⟩) (dv (E++[(g.a,x)]) d.a).length d.cap))=
    (G.map λg=>(Value.zI g.a,Value.slice (some ⟨g.nb,0,none⟩) (dv E g.a).length g.cap)).set i (.zI g.a,.slice (zsA s) (dv E g.a++[x]).length cap):=by
    apply kZq;intro j
    grind [xN,oq]
   grind
  .rw[kJD];refine kJJ.2 (λp r A C K=>?_);have xd:∀j (d:dQR),G[j]? =some d->j≠i->d.nb≠s:=λj d f U e=>by
    rcases Ja t with B|B
    .exact(X j d f U).2 (e.trans B)
    exact(z d (kQR f)).2.has gg
   simp only[kJE,kZl]at A C;rw[kXR,kXR];by_cases Z:i=p
   .subst Z;rw[if_pos rfl,if_neg ip,kQF];exact Ne.symm (xd r G[r] (by simp[C]) ip)
   rw[if_neg Z];by_cases h2:i=r
   .subst h2;rw[if_pos rfl,kQF];exact xd p G[p] (by simp[A]) ip
   rw[if_neg h2];exact kJJ.1 N p r (iu A) (iu C) K
  .intro d l;obtain⟨j,f⟩:=kXT l;rw[kKl]at f;by_cases U:i=j
   .subst U;rw[if_pos rfl,if_pos ic]at f;cases f;refine⟨?_,?_⟩
    .rcases Ja t with B|B
     .grind
     exact F.none B
    rw[xN];exact o.kp v (by simpa using Mw W o) (w _)
   rw[if_neg U]at f;obtain⟨f1,f2⟩:=X j d f (Ne.symm U);obtain⟨L,M⟩:=z d (kQR f);have o':=M.kp kp (iu f2) (λ_ _ _ _ hx=>by cases hx);refine⟨L,?_⟩;rw[oq f1];exact o'.kp v (by simpa using Mw W o') (w _)
  intro c P;by_cases Q:c=g.a
  .exact⟨⟨g.a,s,cap⟩,kQR (i:=i) (by rw[kKl,if_pos rfl,if_pos ic]),Q.symm⟩
  rw[oq Q]at P;obtain⟨d,l,R⟩:=Y c P;obtain⟨j,f⟩:=kXT l;have U:i≠j:=λe=>gg
  exact⟨d,kQR (i:=j) gg,R⟩
 have J:dv E a=[]:=Classical.byContradiction λV=>O (Y a V);have T:∀p∈(G.map λg=>(Value.zI g.a,Value.slice (some ⟨g.nb,0,none⟩) (dv E g.a).length g.cap)),p.1≠.zI a:=λp A e=>by
  grind
 refine wq LD u3 OR y (key:=.zI a) rfl T (hk _ _ _ ⟨h,F,Le.refl _,by rw[J];exact bA.nil,?_⟩);intro h' v' x D H k' I;have W:=y.kp (D.kp []) io;rcases H.out with⟨b0,e1,t⟩|⟨s,cap,e1,t,o⟩
 .grind
 subst e1;refine JO LD u3 W (key:=.zI a) rfl T (λS Py v w=>I S ⟨G++[⟨a,s,cap⟩],?_,?_,?_,?_⟩ v w)
 .have:(G++[(⟨a,s,cap⟩:dQR)]).map (λ(d:dQR)=>(Value.zI d.a,Value.slice (some ⟨d.nb,0,none⟩) (dv (E++[(a,x)]) d.a).length d.cap))=
   (G.map λg=>(Value.zI g.a,Value.slice (some ⟨g.nb,0,none⟩) (dv E g.a).length g.cap))++[(.zI a,.slice (zsA s) (dv E a++[x]).length cap)]:=by
   rw[kXQ];congr 1
   .refine kJN (λg u=>?_)
    grind [oq]
   simp[xN]
  grind
 .rw[kXQ];refine List.nodup_append.2 ⟨N,io,?_⟩;intro p A r C e;simp at C;obtain⟨g,u,rfl⟩:=kZd.1 A;exact(z g u).2.has gg
 .intro d l;rcases kJj.1 l with l|l
  .obtain⟨L,M⟩:=z d l;have o':=M.mono (D.t _);refine⟨L,?_⟩;rw[oq (λe=>O ⟨d,l,e⟩)];exact o'.kp v (by simpa using Mw W o') (w _)
  simp at l;subst l;refine⟨F.none t,?_⟩;rw[xN];exact o.kp v (by simpa using Mw W o) (w _)
 intro c P;by_cases Q:c=a
 .exact⟨⟨a,s,cap⟩,io,Q.symm⟩
 grind [oq]
theorem QC{W:List bZ}{w:bZ}(h:W[i]? =some w):cN H (W.take (i+1))=cN H (W.take i)++jh w H:=by unfold cN;rw[kJG,h];simp
theorem QD{w o:bZ}(h:H[j]? =some o)(a:eE w o=true):jh w (H.take (j+1))=jh w (H.take j)++[(w.s,o.s)]:=by unfold jh;rw[kJG,h,kXP];simp[a]
theorem NC{w o:bZ}(h:H[j]? =some o)(a:eE w o=false):jh w (H.take (j+1))=jh w (H.take j):=by unfold jh;rw[kJG,h,kXP];simp[a]
theorem GO(w:bZ)(H:List bZ):(jh w H).length<=H.length:=by
 grind [jh]
theorem Db(H W:List bZ):(cN H W).length<=W.length*H.length:=by
 induction W with
 |nil=>simp[cN]
 |cons w r i=>
  have:cN H (w::r)=jh w H++cN H r:=by simp[cN]
  rw[this,kXy,kZs,kZi];have:=GO w H;omega
theorem Cp{a b:Nat}(h:a<=2^18)(c:b<=2^18):a*b<=2^36:=by
 have:=eA h c
 grind
theorem Yi{W:List bZ}{L M:Option Addr}{O P:Nat}(q1:Sl 253 bC h (.slice L n O) H)(q2:Sl 253 bC h (.slice M f P) W)(fG:n<=2^18)(fA:f<=2^18):
 Ct 321 [.agg #[.slice L n O,.slice M f P]] h (λv h'=>Le h h'/\∃r m,v=.zP r/\h r=none/\h m=none/\h' r=some (.cells #[.map (some m),.zI 0] 504 (0,0))/\Rg h h' m (cN H W)):=by
 have nZ:=q1.len;have lN:=q2.len;have hE:∀i,(cN H (W.take i)).length<=2^36:=λi=>by
  have:=Db H (W.take i);have R:(W.take i).length<=2^18:=gg
  have:=Cp R (show H.length<=2^18 by omega);omega
 refine cB eXz Tryz.func321 λA hA=>?_;cbv;intro m h1 y e1;have l1:Le h h1:=zqs e1 y
 have g1:=zqt e1;cbv;intro r R KZ e2;have l2:Le h1 R:=zqs e2 KZ
 have gr:=zqt e2;have gm:=l2 _ _ g1;have Kh:=l1.trans l2;have Q:Rg h R m (cN H (W.take 0)):=⟨[],Mp.new gm,io,io,λa ha=>absurd rfl ha⟩;cbv;refine ba.go (G:=Int) (λz=>[(14,.v (.zI z))]) (λ_=>[(1,[.slice L n O,.slice M f P])])
  (λk z h'=>∃i:Nat,bg z i/\k=f-i/\i<=f/\Le h h'/\h' r=some (.cells #[.map (some m),.zI 0] 504 (0,0))/\Rg h h' m (cN H (W.take i))) f 0 ⟨?_,?_,?_⟩ ⟨0,⟨rfl⟩,ip,ip,Kh,gr,Q⟩ ?_
 .cbv
 .cbv
 .cbv
 intro k z h' hI;cbv;obtain⟨i,E,hk,hi,p,WD,rg⟩:=hI;refine bm (λe=>?_) (λe=>?_)
 .have aZ:=E.lt e;clear e;cbv;obtain⟨w,hw⟩:=cK W i;refine⟨⟨q2.bu,E.ix aZ⟩,?_⟩;cbv;refine(q2.mono (p.t _)).load hw E.eq (λcs g=>?_);have g:cs=[.zI w.s,.string w.table,.bool w.x]:=g;subst g;have D:=QC (H:=H) hw;have V:=hE (i+1);rw[D]at V;have Q:Rg h h' m (cN H (W.take i)++jh w (H.take 0)):=by simpa[jh]using rg
  cbv;refine ba.go (G:=Int) (λz=>[(21,.v (.zI z))]) (λ_=>[(5,[.zI w.s,.string w.table,.bool w.x]),(1,[.slice L n O,.slice M f P])])
   (λk z h'=>∃j:Nat,bg z j/\k=n-j/\j<=n/\Le h h'/\h' r=some (.cells #[.map (some m),.zI 0] 504 (0,0))/\Rg h h' m (cN H (W.take i)++jh w (H.take j))) n 0 ⟨?_,?_,?_⟩ ⟨0,⟨rfl⟩,ip,ip,p,WD,Q⟩ ?_
  .cbv
  .cbv
  .cbv
  intro k2 z2 h3 hI;cbv;obtain⟨j,u,sU,hj,T,WB,X⟩:=hI;refine bm (λe=>?_) (λe=>?_)
  .have uL:=u.lt e;clear e;cbv;obtain⟨o,ho⟩:=cK H j;refine⟨⟨q1.bu,u.ix uL⟩,?_⟩;cbv;refine(q1.mono (T.t _)).load ho u.eq (λcs g=>?_);have g:cs=[.zI o.s,.string o.table,.bool o.x]:=g;subst g;cbv;refine(Hj (a:=w) (b:=o)).mono (λv h4 hR=>?_);obtain⟨l4,t,rfl,et⟩:=hR;have B:=l4 _ _ WB;have Z:=X.kp (l4.kp []) io io;have S:=T.trans l4;cases t with
   |true=>
    have l:=QD ho et.symm;have ab:(cN H (W.take i)++jh w (H.take j)).length<=2^38:=by
     grind [GO]
    cbv;rw[av A];refine cy B ?_;cbv;rw[av A];refine cy B ?_;cbv;refine⟨?_,?_⟩
    .refine Z.tk S y w.s (λbb nn cc tk=>?_);obtain⟨hb,t1,t2,I,t4⟩:=tk.out;have sQ:nn<=2^38:=by
      have:=I.sl.len
      grind [LM,cN,jh]
     cbv;refine cy B ?_;cbv;refine zqr ?_;cbv;intro Y h5 wW C;have q:Le h4 h5:=zqs C wW
     have g5:=zqt C;have N:=q _ _ B;cbv;refine cy N ?_;cbv;refine zqr ?_;cbv;refine(I.mono (q.t _)).append (bh (s:=dK) g5 (x:=o.s) rfl) dl rfl dl ip (t2.trans q) (λmm b' c' h6 Ed F t6 k6 J=>?_);have c:=t6 [504] dl _ _ _ _ dl N;cbv;refine cy c ?_;cbv;refine zqr ?_;cbv;refine t4 h6 _ o.s F J _ (λh7 d k7 t7=>?_);have l7:Le h h7:=(t1.trans F).bf (iu y) k7;have K:=t7 [504] _ _ _ _ dl c;rw[kJk,<-l]at d;cbv;refine zqn (n-(j+1)) _ ip ⟨j+1,u.succ (A:=A),rfl,ip,l7,K,d⟩
    intro Y h5 wW C;have q:Le h4 h5:=zqs C wW
    have g5:=zqt C;have N:=q _ _ B;have U:=Z.kp (q.kp []) io io;cbv;refine cy N ?_;cbv;refine zqr ?_;cbv;refine cy N ?_;cbv;refine zqr ?_;cbv;refine U.tk (S.trans q) y w.s (λbb nn cc tk=>?_);obtain⟨hb,t1,t2,I,t4⟩:=tk.out;have sQ:nn<=2^38:=by
     have:=I.sl.len
     grind [LM,cN,jh]
    cbv;refine cy N ?_;cbv;refine zqr ?_;cbv;refine(I).append (bh (s:=dK) g5 (x:=o.s) rfl) dl rfl dl ip t2 (λmm b' c' h6 Ed F t6 k6 J=>?_);have c:=t6 [504] dl _ _ _ _ dl N;cbv;refine cy c ?_;cbv;refine zqr ?_;cbv;refine t4 h6 _ o.s F J _ (λh7 d k7 t7=>?_);have l7:Le h h7:=(t1.trans F).bf (iu y) k7;have K:=t7 [504] _ _ _ _ dl c;rw[kJk,<-l]at d;cbv;refine zqn (n-(j+1)) _ ip ⟨j+1,u.succ (A:=A),rfl,ip,l7,K,d⟩
   |false=>
    have l:=NC ho et.symm;cbv;refine zqn (n-(j+1)) _ ip ⟨j+1,u.succ (A:=A),rfl,ip,S,B,?_⟩
    grind
  have mw:=u.ge e;rw[show H.take j=H from kXe ip,<-D]at X;cbv;refine zqn (f-(i+1)) _ ip ⟨i+1,E.succ (A:=A),rfl,ip,T,WB,X⟩
 have mw:=E.ge e;rw[kXe ip]at rg;cbv;exact⟨p,r,m,rfl,l1.none KZ,y,WD,rg⟩
def dV(st:List Int×List Int)(k:Int):List Int×List Int:=if decide (k∈st.1)=true then st else(st.1++[k],st.2++[k])
def bQL(E:List (Int×Int)):Nat->List Int×List Int->List Int
 |0,st=>st.1
 |n+1,st=>match st.2 with
  | []=>st.1
  |a::r=>bQL E n ((dv E a).foldl dV (st.1,r))
def over(E:List (Int×Int))(s:Int):List Int:=bQL E (E.length+2) ([],[s])
def AV(E:List (Int×Int))(seen:List Int):Nat:=(E.filter λp=> !decide (p.2∈seen)).length
theorem Mn(s:List Int)(y:Int):∀L:List (Int×Int),AV L (s++[y])<=AV L s
 | []=>qA _
 |e::r=>by
  have i:=Mn s y r
  grind [AV]
theorem YA(s:List Int)(x y:Int)(k:y∉s):∀L:List (Int×Int),(x,y)∈L->AV L (s++[y])+1<=AV L s
 | [],h=>by cases h
 |e::r,h=>by
  by_cases a:e=(x,y)
  .subst a;have g:=Mn s y r
   grind [AV]
  have b:(x,y)∈r:=by
   grind
  have i:=YA s x y k r b
  grind [AV]
theorem RO{s:List Int}{k:Int}(b:k∉s)(h:k∈dv E a):AV E (s++[k])+1<=AV E s:=by unfold dv at h;obtain⟨⟨x,y⟩,m,rfl⟩:=kZd.1 h;exact YA s x y b E (kZp.1 m).1
theorem cJq:jJ Tryz.prog 332 Tryz.f332:=⟨Tryz.func332,by kernel_rfl,by kernel_rfl,by kernel_rfl⟩
theorem cJP{b o:Nat}{x:Int}(q:oJ h ⟨b,o,none⟩ (.zI x)):Ct 253 [.pointer (some ⟨b,o,none⟩),.zI 1] h (λv h'=>∃z y,v=.zI z/\Up h b o (.zI y) h'):=by
 refine cB bXc Tryz.func253 λA f=>?_;cbv;rw[av A];refine KA cJq (by kernel_rfl) q (λc e d e1 a=>?_);have u:Up h b o (.zI _) d:=⟨c,e,e1,a⟩;generalize IntKind.i64.wrap (x+1)=y at *;cbv
 grind
theorem Rg.dZs{r:Nat}(q:Rg h0 h m E)(w:h r=zcL 504 cs)(kp:Kp [r] h h')(a:Int)(j:∀b n c,Sl 3 dK h (.slice b n c) (dv E a)->k (.slice b n c) h'):
 fL (λ_=>Tryz.prog) (λ_=>Instr.lookup 502 (.map (some m)) (.zI a) false) h' k:=by
 obtain⟨G,d,v,o,s⟩:=q.out;have t:m∉[r]:=by
  intro e;simp at e;obtain⟨u,l,g,-⟩:=d.out
  grind
 have W:=d.kp kp t;by_cases f:∃g∈G,g.a=a
 .obtain⟨g,i,rfl⟩:=f;exact AO LD u3 W (key:=.zI g.a) rfl (kZd.2 ⟨g,i,rfl⟩) (j _ _ _ ((o g i).2.sl rfl))
 refine wq LD u3 OR W (key:=.zI a) rfl (λp x e=>?_) (j _ _ _ ?_)
 .grind
 have:dv E a=[]:=Classical.byContradiction λV=>f (s a V);rw[this];exact Sl.nil
abbrev Cr(l:List Int):List (Value×Value):=l.map λk=>(.zI k,.bool true)
theorem LX{l:List Int}{k:Int}:(Value.zI k,Value.bool true)∈Cr l↔k∈l:=by simp[Cr]
theorem Kc{l:List Int}(q:Mp h m (.int .i64) (Cr l))(a:Int)(c:∀t,t=decide (a∈l)->k (.bool t) h):
 fL (λ_=>Tryz.prog) (λ_=>Instr.lookup 470 (.map (some m)) (.zI a) false) h k:=by
 by_cases b:a∈l
 .exact AO aZI u3 q (key:=.zI a) rfl (LX.2 b) (c true (by simp[b]))
 refine wq aZI u3 bXU q (key:=.zI a) rfl (λp d e=>?_) (c false (by simp[b]))
 grind
theorem bKZ{l:List Int}(q:Mp h m (.int .i64) (Cr l))(c:a∉l)(K:∀h',Mp h' m (.int .i64) (Cr (l++[a]))->Kp [m] h h'->(∀tys,cX tys h h')->k undef h'):
 fL (λ_=>Tryz.prog) (λ_=>do Instr.mapUpdate 470 (.map (some m)) (.zI a) (.bool true);pure undef) h k:=by
 refine JO aZI u3 q (key:=.zI a) rfl (λp d e=>?_) (λh' f b t'=>K h' ?_ b t')
 .grind
 grind
theorem KN{r:Nat}{c:List Value}{l:List (Value×Value)}{e:Nat}(g:h r=zcL e c)(q:Mp h m d l):m≠r:=λb=>by
 obtain⟨s,o,a,-⟩:=q.out
 grind
theorem Mp.obj{l:List (Value×Value)}{e:Nat}(q:Mp h m d l)(k:∀j o,h j=some o->(∀c fr,o≠.cells c e fr)->h' j=some o):Mp h' m d l:=by obtain⟨s,a,g,b⟩:=q.out;exact⟨s,a,k _ _ g (λc fr e=>by cases e),b⟩
theorem RV{H:Nat}{x:Int}(gr:h f=some (.cells #[.map (some H),.zI x] 504 (0,0)))(rg:Rg h0 h H E)(hE:E.length<=2^37)(s:Int):
 Ct 322 [.zP f,.zI s] h (λv h'=>Kp [f] h h'/\∃m x',v=.map (some m)/\h m=none/\h' f=some (.cells #[.map (some H),.zI x'] 504 (0,0))/\Mp h' m (.int .i64) (Cr (over E s))):=by
 have KZ:km h f f=none:=oD h f;refine cB eXy Tryz.func322 λA hA=>?_;cbv;intro m h1 hm e1;have l1:Le h h1:=zqs e1 hm
 have g1:=zqt e1;have aA:Mp h1 m (.int .i64) (Cr []):=Mp.new g1;cbv;intro T h2 eM e2;have l2:Le h1 h2:=zqs e2 eM
 have g2:=zqt e2;have Kh:=l1.trans l2;have WC:=Kh _ _ gr;have Py:=aA.kp (l2.kp []) io;have Eh:Le (km h f) h2:=(uM h f).trans Kh;have ax:km h f T=none:=((uM h f).trans l1).none eM;have gQ:lU 3 dK (km h f) h2 (.slice (zsA T) 1 1) [s] 1:=
  ((Ew (s:=dK) g2 (x:=s) rfl).buf ax rfl).t io
 have UN:AV E []=E.length:=by simp[AV]
 cbv;refine ba.go (G:=Option Addr×Nat×Nat) (λg=>[(6,.v (.slice g.1 g.2.1 g.2.2))]) (λ_=>[])
  (λk g h'=>∃c d n p x',Kp [f] h h'/\h' f=some (.cells #[.map (some H),.zI x'] 504 (0,0))/\Mp h' m (.int .i64) (Cr c)/\lU 3 dK (km h f) h' (.slice g.1 g.2.1 g.2.2) d p/\
   k=AV E c+d.length/\k<=n/\bQL E n (c,d)=over E s/\p+AV E c<=E.length+1/\d.length<=p) (E.length+1) (zsA T,1,1) ⟨?_,?_,?_⟩ ⟨[],[s],E.length+2,1,x,Kt Eh,WC,Py,gQ,by rw[UN];rfl,ip,rfl,gg,io⟩ ?_
 .cbv
 .cbv
 .cbv
 intro k g h' hI;cbv;obtain⟨c,d,n,p,x',kp,W,mp,P,hk,Ko,Qr,hp,L⟩:=hI;obtain⟨gb,B,gc⟩:=g;have P:lU 3 dK (km h f) h' (.slice gb B gc) d p:=P;have Cb:B=d.length:=P.sl.len;generalize J:A .aQ .gtr (A .nat B) 0=u;have aW:=J;rw[bF A,hA.nat]at J;simp only[kZn]at J;have hu:u=true->0<B:=λe=>gg
 have Zr:u=false->B=0:=λe=>gg
 cases u with
 |false=>
  have h0:=Zr rfl;have ht:d=[]:=kZh ip;subst ht;have aN:over E s=c:=by rw[<-Qr];cases n<;>rfl
  cbv;exact⟨kp,m,x',rfl,hm,W,gg⟩
 |true=>
  have h0:=hu rfl;cases d with
  |nil=>simp at Cb;omega
  |cons a r=>
   cbv;rw[av A];refine(cJP (cJ W rfl)).mono (λv h3 hR=>?_);obtain⟨z,y,rfl,ao⟩:=hR;have e3:=ao.exp W;have WB:h3 f=some (.cells #[.map (some H),.zI y] 504 (0,0)):=zqt e3;have Vc:=KN W mp;have k3:Kp [f] h' h3:=by rw[e3];exact Kp.set io
   have t3:cX [3] h' h3:=by rw[e3];exact cX.set W dl
   have O:=kp.trans k3;have aw:=mp.kp k3 (iu Vc);have yL:=P.mono t3;have eL:gb.isSome=true/\(0:Int)<=0/\(0:Int)<(B:Int):=⟨yL.sl.bu,ip,ip⟩;cbv;rw[av A];refine cy WB ?_;cbv;refine⟨eL,?_⟩;cbv;refine yL.sl.load (i:=0) (x:=a) rfl (n:=0) rfl (λcs q=>?_);have q:cs=[.zI a]:=q;subst q;cbv;refine rg.dZs gr O a (λbb D cc V=>?_);have sQ:D=(dv E a).length:=V.len;have aK:=V.bound;obtain⟨n',ab⟩:∃n',n=n'+1:=⟨n-1,gg⟩;subst ab;have zl:bQL E n' ((dv E a).foldl dV (c,r))=over E s:=Qr;simp only[kZs]at hk L;cbv;refine ba.go (G:=Int×Option Addr×Nat×Nat) (λg=>[(30,.v (.zI g.1)),(6,.v (.slice g.2.1 g.2.2.1 g.2.2.2))]) (λ_=>[])
    (λk2 g F=>∃j p,bg g.1 j/\k2=D-j/\j<=D/\Kp [f] h F/\F f=some (.cells #[.map (some H),.zI y] 504 (0,0))/\Mp F m (.int .i64) (Cr (((dv E a).take j).foldl dV (c,r)).1)/\
     lU 3 dK (km h f) F (.slice g.2.1 g.2.2.1 g.2.2.2) (a::(((dv E a).take j).foldl dV (c,r)).2) p/\
     AV E (((dv E a).take j).foldl dV (c,r)).1+(((dv E a).take j).foldl dV (c,r)).2.length<=AV E c+r.length/\
     p+AV E (((dv E a).take j).foldl dV (c,r)).1<=E.length+1/\(((dv E a).take j).foldl dV (c,r)).2.length+1<=p) D (0,gb,B,gc) ⟨?_,?_,?_⟩
     ⟨0,p,⟨rfl⟩,ip,ip,O,WB,aw,yL,qA _,hp,L⟩ ?_
   .cbv
   .cbv
   .cbv
   intro k2 g F hI;cbv;obtain⟨j,U,l,sU,hj,Q,Y,X,K,hM,ag,aI⟩:=hI;obtain⟨z4,N,Z,C⟩:=g;have l:bg z4 j:=l;generalize M:((dv E a).take j).foldl dV (c,r)=st at *;have K:lU 3 dK (km h f) F (.slice N Z C) (a::st.2) U:=K;have aO:Z=st.2.length+1:=K.sl.len;refine bm (λR=>?_) (λR=>?_)
   .have aZ:=l.lt R;clear R;obtain⟨w,hw⟩:=cK (dv E a) j;have vB:w∈dv E a:=kQR hw;have Lh:((dv E a).take (j+1)).foldl dV (c,r)=dV st w:=by rw[kJG,hw,List.foldl_append,M];rfl
    cbv;refine⟨⟨V.bu,l.ix aZ⟩,?_⟩;cbv;refine(V.mono (Kp.dZx Q gr dl)).load hw l.eq (λcs q=>?_);have q:cs=[.zI w]:=q;subst q;cbv;refine Kc X w (λt ht=>?_);cases t with
    |true=>
     have oT:A .not true=false:=by rw[hA.not];rfl
     have kI:dV st w=st:=by unfold dV;grind
     cbv;rw[oT];cbv;refine zqn (D-(j+1)) (_,N,Z,C) ip ⟨j+1,U,l.succ (A:=A),rfl,ip,Q,Y,?_⟩
     grind
    |false=>
     have oT:A .not false=true:=by rw[hA.not];rfl
     have ZF:w∉st.1:=kZX ht.symm;have kI:dV st w=(st.1++[w],st.2++[w]):=by unfold dV;grind
     have aH:=RO ZF vB;cbv;rw[oT];cbv;refine bKZ X ZF (λh5 az k5 t5=>?_);have aM:=KN Y X;have Nr:=t5 [504] _ _ _ _ dl Y;have aE:Kp [f] h h5:=λb o I aq=>by
      have:=Q b o I aq;refine k5 b o this ?_;intro e
      grind
     have tL:=K.mono (t5 _);cbv;intro ak h6 Qb e6;have S:Le h5 h6:=zqs e6 Qb
     have g6:=zqt e6;have al:=S _ _ Nr;have aB:=az.kp (S.kp []) io;have aD:=aE.trans (S.kp _);have aF:Le (km h f) h6:=λb o I=>by
      unfold km at I;split at I
      .cases I
      rename_i bV;exact aD b o I (iu bV)
     cbv;refine(tL.mono (S.t _)).append (bh (s:=dK) g6 (x:=w) rfl) dl rfl dl ip ip ip aF (λmm b' c' h7 Ed l7 t7 iO k7=>?_);have an:=t7 [504] dl _ _ _ _ dl al;have aL:=Mp.obj aB k7;have aC:Kp [f] h h7:=Kt l7;cbv;refine zqn (D-(j+1)) (_,b',mm,c') ip ⟨j+1,U+1,l.succ (A:=A),rfl,ip,aC,an,?_⟩
     grind
   have mw:=l.ge R;have aG:j=D:=ip
   rw[show(dv E a).take j=dv E a from kXe ip]at M;have Jc:bg (1:Int) 1:=⟨rfl⟩;have mV:(0:Int)<=1/\(1:Int)<=(Z:Int):=ip
   have Ap:=K.tail (A:=A) Jc (cS (A:=A) (n:=Z) Jc) (cS (A:=A) (n:=C) Jc);rw[M]at zl;cbv;refine⟨mV,?_⟩;cbv;refine⟨AV E st.1+st.2.length,(_,_,_),ip,⟨?_,?_,?_⟩,st.1,st.2,n',U,y,Q,Y,X,Ap,rfl,ip,zl,ag,ip⟩
   .cbv;exact⟨rfl,True.intro⟩
   .cbv
   cbv
structure cJQ(E:List (Int×Int))(s v:Int)(t:Bool):Prop where
 out:(t=false/\v=0/\s∉over E s)\/(t=true/\s∈over E s/\s<=v/\(v=s\/(v∈over E s/\s∈over E v))/\∀k∈over E s,s∈over E k->k<=v)
theorem cJQ.jZY{s v f:Int}{t t':Bool}(a:cJQ E s v t)(b:cJQ E s f t'):v=f/\t=t':=by
 rcases a.out with⟨a1,a2,g⟩|⟨a1,a2,g,j,k⟩
 .rcases b.out with⟨c,d,e⟩|⟨c,d,e,h,i⟩
  .exact⟨by rw[a2,d],by rw[a1,c]⟩
  grind
 rcases b.out with⟨c,d,e⟩|⟨c,d,e,h,i⟩
 .exact absurd a2 e
 grind
def jc(E:List (Int×Int))(s:Int)(l:List Int)(m:Int):Int:=l.foldl (λm k=>if decide (k>m)&&decide (s∈over E k)then k else m) m
def dg(E:List (Int×Int))(s:Int):Int×Bool:=if decide (s∈over E s)=true then(jc E s (over E s) s,true)else(0,false)
theorem vR(E:List (Int×Int))(s:Int):∀(l:List Int) (m:Int),m<=jc E s l m/\(jc E s l m=m\/(jc E s l m∈l/\s∈over E (jc E s l m)))/\∀k∈l,s∈over E k->k<=jc E s l m
 | [],m=>⟨tB _,.inl rfl,λk d=>by cases d⟩
 |x::r,m=>by
  have e:jc E s (x::r) m=jc E s r (if decide (x>m)&&decide (s∈over E x)then x else m):=rfl;rw[e];by_cases h:(decide (x>m)&&decide (s∈over E x))=true
  .rw[if_pos h];simp at h;obtain⟨a,b,c⟩:=vR E s r x
   grind
  rw[if_neg h];simp at h;obtain⟨a,b,c⟩:=vR E s r m
  grind
theorem og(E:List (Int×Int))(s:Int):cJQ E s (dg E s).1 (dg E s).2:=by
 constructor;unfold dg;by_cases h:s∈over E s
 .rw[if_pos (iu h)];obtain⟨a,b,c⟩:=vR E s (over E s) s
  grind
 grind
theorem cJQ.eq{s v:Int}{t:Bool}(a:cJQ E s v t):v=(dg E s).1/\t=(dg E s).2:=a.jZY (og E s)
theorem Rg.gen(q:Rg h0 h m E){bs:List Nat}(k:Kp bs h h')(f:m∉bs)(t:cX [3] h h'):Rg h0 h' m E:=by obtain⟨G,c,d,a,e⟩:=q.out;exact⟨G,c.kp k f,d,λg b=>⟨(a g b).1,(a g b).2.mono t⟩,e⟩
theorem Rg.map(q:Rg h0 h m E):∃l,Mp h m (.int .i64) l:=by
 obtain⟨G,g,-⟩:=q.out
 grind
theorem Ig{W:List bZ}{Y b2:Option Addr}{J c1 L c2:Nat}(q1:Sl 253 bC h (.slice Y J c1) H)(q2:Sl 253 bC h (.slice b2 L c2) W)(fG:J<=2^18)(fA:L<=2^18)(s:Int):
 Ct 234 [.agg #[.slice Y J c1,.slice b2 L c2],.zI s] h (λv h'=>Le h h'/\∃z t,v=.tuple #[.zI z,.bool t]/\cJQ (cN H W) s z t):=by
 have hE:(cN H W).length<=2^37:=by have:=Db H W;have:=Cp (show W.length<=2^18 by rw[<-q2.len];exact fA) (show H.length<=2^18 by rw[<-q1.len];exact fG);omega
 generalize Vk:cN H W=E at *;refine cB eZZ Tryz.func234 λA hA=>?_;cbv;refine(Yi q1 q2 fG fA).mono (λv h1 hR=>?_);obtain⟨l1,d,r,rfl,KZ,aB,gr,N⟩:=hR;rw[Vk]at N;cbv;refine(RV gr N hE s).mono (λv h2 hR=>?_);obtain⟨k2,m,x2,rfl,hm,WC,S⟩:=hR;have l2:Le h h2:=l1.bf (iu KZ) k2;have aq:Rg h h2 r E:=by obtain⟨l,D⟩:=N.map;exact N.gen k2 (by simpa using KN gr D) (Kp.dZx k2 gr dl)
 cbv;refine Kc S s (λt B=>?_);cases t with
 |false=>
  have oT:A .not false=true:=by rw[hA.not];rfl
  have hs:s∉over E s:=kZX B.symm;cbv;rw[oT];cbv;exact⟨l2,0,false,rfl,⟨.inl ⟨rfl,rfl,hs⟩⟩⟩
 |true=>
  have oT:A .not true=false:=by rw[hA.not];rfl
  have hs:s∈over E s:=kZr B.symm;cbv;rw[oT];cbv;refine Uo aZI S (λi h3 ar C ao=>?_);have WB:=C _ _ WC;have aA:=S.kp (C.kp []) io;have ag:=aq.gen (C.kp []) io (C.t _);have ab:=l2.trans C;cbv;refine ba.go (G:=Int) (λz=>[(8,.v (.zI z))]) (λ_=>[(2,[.slice Y J c1,.slice b2 L c2])])
   (λk z h'=>∃left b x',Le h h'/\It h' i m left b/\k=left.length/\h' d=some (.cells #[.map (some r),.zI x'] 504 (0,0))/\Rg h h' r E/\
    s<=z/\(z=s\/(z∈over E s/\s∈over E z))/\(∀p∈left,p∈Cr (over E s))/\∀k∈over E s,s∈over E k->k<=z\/(Value.zI k,Value.bool true)∈left) _ s ⟨?_,?_,?_⟩
    ⟨_,_,x2,ab,ao,rfl,WB,ag,tB _,.inl rfl,λp q=>q,λk n _=>.inr (LX.2 n)⟩ ?_
  .cbv
  .cbv
  .cbv
  intro k z h' hI;cbv;obtain⟨left,b,x',o,K,n,WD,j,ld,mf,R,az⟩:=hI;have ak:i≠d:=λe=>by
   grind
  have UY:m≠d:=λe=>by
   grind
  have al:r≠i:=λe=>by
   obtain⟨_,_,_,_,_,_,g,_⟩:=K.out;obtain⟨l,D⟩:=j.map;obtain⟨_,_,g',_⟩:=D.out
   grind
  refine XU K (λhl=>?_) (λkey val c h4 fN ax kj aZ X k4 t4=>?_)
  .cbv;refine⟨o,z,true,rfl,⟨.inr ⟨rfl,hs,ld,mf,λk n Q=>?_⟩⟩⟩
   grind
  have P:=t4 [504] _ _ _ _ dl WD;have nC:=R _ fN;obtain⟨w,hw,he⟩:=kZd.1 nC;cases he;have l4:Le h h4:=o.bf (by simpa using l2.none ar) k4;have Z:=j.gen k4 (iu al) (t4 _);have y:∀(a:ad) (x:Int),Le h a->It a i m c (some (.zI w,.bool true))->a d=some (.cells #[.map (some r),.zI x] 504 (0,0))->Rg h a r E->((s∈over E w)->w<=z)->
   ∃left b x',Le h a/\It a i m left b/\c.length=left.length/\a d=some (.cells #[.map (some r),.zI x'] 504 (0,0))/\Rg h a r E/\
    s<=z/\(z=s\/(z∈over E s/\s∈over E z))/\(∀p∈left,p∈Cr (over E s))/\∀k∈over E s,s∈over E k->k<=z\/(Value.zI k,Value.bool true)∈left:=
   λa x a1 a2 T U a5=>⟨c,_,x,a1,a2,rfl,T,U,ld,mf,λp q=>R p (kj p q),λk n Q=>by
    grind⟩
  have F:∀(a:ad) (x:Int),Le h a->It a i m c (some (.zI w,.bool true))->a d=some (.cells #[.map (some r),.zI x] 504 (0,0))->Rg h a r E->s∈over E w->z<w->
   ∃left b x',Le h a/\It a i m left b/\c.length=left.length/\a d=some (.cells #[.map (some r),.zI x'] 504 (0,0))/\Rg h a r E/\
    s<=w/\(w=s\/(w∈over E s/\s∈over E w))/\(∀p∈left,p∈Cr (over E s))/\∀k∈over E s,s∈over E k->k<=w\/(Value.zI k,Value.bool true)∈left:=
   λa x a1 a2 T U a5 a6=>⟨c,_,x,a1,a2,rfl,T,U,ip,.inr ⟨hw,a5⟩,λp q=>R p (kj p q),λk n Q=>by
    grind⟩
  generalize eg:A .aQ .gtr w z=u;have fg:=eg;rw[bF A]at eg;cbv;refine Uq X ?_;cbv;rw[fg];cases u with
  |false=>
   have M:=y h4 x' l4 X P Z (λ_=>gg);cbv;refine zqn c.length _ ip M
  |true=>
   have yE:z<w:=kZr eg;cbv;refine(RV P Z hE w).mono (λv a hR=>?_);obtain⟨I,m5,x,rfl,Lf,Nr,an⟩:=hR;have l5:Le h a:=l4.bf (iu KZ) I;have f:Rg h a r E:=by obtain⟨l,D⟩:=Z.map;exact Z.gen I (by simpa using KN P D) (Kp.dZx I P dl)
   have O:=X.kp I (iu ak) (iu UY);cbv;refine Kc an s (λt B=>?_);cases t with
   |true=>
    have M:=F a x l5 O Nr f (kZr B.symm) yE;cbv;refine zqn c.length _ ip M
   |false=>
    have V:s∉over E w:=kZX B.symm;have M:=y a x l5 O Nr f (λaw=>absurd aw V);cbv;refine zqn c.length _ ip M
theorem kO.YT{b t w:Nat}{T:List bS}{W:List (eJ×Bool)}{D:List bZ}{a:Nat}{m p d f:Option Addr}{B q C r k g l:Nat}{o:Int}
 (s:h c=some (.cells #[.slice (zsA b) n t,.slice (zsA wb) a w,.slice m B q,.slice p C r,.zU o,.int .i32 0,.zU 0,.zI e] 148 (0,0)))
 (A:(o=0/\e=0)\/(o=1/\e≠0)) (u:n=T.length) (v:dt 61 bT h b t T) (x:a=W.length) (y:dt 79 cu h wb w W) (E:Sl 253 bC h (.slice d k g) H) (F:Sl 253 bC h (.slice f l i) D)
 (j:h'=bO h c (.cells #[.slice (zsA b) n t,.slice (zsA wb) a w,.slice d k g,.slice f l i,.zU o,.int .i32 0,.zU 0,.zI e] 148 (0,0))):
 Kp [c] h h'/\kO h' c b wb t w T W H D e:=by
 have lt:∀tys,148∉tys->cX tys h h':=λtys z=>by rw[j];exact cX.set s z
 refine⟨by rw[j];exact Kp.set io,n,a,d,k,g,f,l,i,o,by rw[j];exact ae,A,u,v.mono (lt _ dl),x,y.mono (lt _ dl),E.mono (lt _ dl),F.mono (lt _ dl)⟩
theorem kO.elim{l t w:Nat}{T:List bS}{W:List (eJ×Bool)}{m:List bZ}(q:kO h c l wb t w T W H m e){p:Prop}
 (k:∀(n g:Nat) (b:Option Addr) (i d:Nat) (a:Option Addr) (j f:Nat) (o:Int),h c=some (.cells #[.slice (zsA l) n t,.slice (zsA wb) g w,.slice b i d,.slice a j f,.zU o,.int .i32 0,.zU 0,.zI e] 148 (0,0))->
  ((o=0/\e=0)\/(o=1/\e≠0))->n=T.length->dt 61 bT h l t T->g=W.length->dt 79 cu h wb w W->Sl 253 bC h (.slice b i d) H->Sl 253 bC h (.slice a j f) m->
  fD h (.agg #[.slice (zsA l) n t,.slice (zsA wb) g w,.slice b i d,.slice a j f]) ⟨T,W.map (·.1),H,m⟩->p):p:=by
 obtain⟨n,g,b,i,d,a,j,f,o,z,A,r,s,u,v,x,y⟩:=q.out;exact k n g b i d a j f o z A r s u v x y ⟨_,_,_,_,_,_,_,_,_,_,_,_,W,rfl,s.sl r,v.sl u,x,y,rfl⟩
theorem eC{d:DB}{v:Value}(q:fD h v d)
 (r:∀h' b n f a m g c o i e p j,Le h h'->fD h' (.agg #[.slice b n f,.slice a m g,.slice c o i,.slice e p j]) d->k (.agg #[.slice b n f,.slice a m g,.slice c o i,.slice e p j]) h'):Ct 40 [v] h k:=
 (sF q).mono (λv h' hR=>by
  obtain⟨l,hd⟩:=hR;obtain⟨b,n,f,a,m,g,c,o,i,e,p,j,s⟩:=hd.form
  grind)
theorem lq{d:DB}{v:Value}(q:fD h v d)
 (e:∀h' c t wb a b W,Le h h'->h c=none->h t=none->h wb=none->c≠t->c≠wb->W=(d.ai.map λw=>(w,true))->a=d.ao.length->b=W.length->kO h' c t wb a b d.ao W d.holds d.waits 0->k (.zP c) h'):Ct 38 [v] h k:=
 (EM q).mono (λv h' hR=>by
  grind)
theorem Xv{t:bS}(q:bT.R h cs t){p:List Value->Prop}(k:∀(b:Option Addr) (n c:Nat) (a:Option Addr) (e d:Nat),Sl 202 bJ h (.slice b n c) t.S.cols->Sl 46 bK h (.slice a e d) t.rows->p [.string t.S.name,.slice b n c,.zI t.S.key,.bool t.S.only,.slice a e d]):p cs:=by
 obtain⟨b,n,c,a,e,d,rfl,f,g⟩:=q
 grind
theorem zS[bM A]{len:Nat}{xs:List bS}(q:Sl 61 bT h (.slice b len cap) xs){t:bS}(hx:xs[i]? =some t){n:Int}(l:n=(i:Int)){k:List Value->Prop}
 (j:∀(a:Option Addr) (f d:Nat) (c:Option Addr) (g e:Nat),Sl 202 bJ h (.slice a f d) t.S.cols->Sl 46 bK h (.slice c g e) t.rows->k [.string t.S.name,.slice a f d,.zI t.S.key,.bool t.S.only,.slice c g e]):Ai h (A.jt b n bT.n) bT.n k:=
 q.load hx l (λcs r=>Xv r j)
theorem pt[bM A]{len:Nat}(q:Sl 79 cu h (.slice b len cap) xs)(hx:xs[i]? =some w){n:Int}(j:n=(i:Int)){k:List Value->Prop}
 (f:∀(d:Option Addr) (a c:Nat),Sl 161 bD h (.slice d a c) w.1.log->(w.2=true->c=a)->(∀h' e,Le h h'->e [.slice d a c]->Ai h' (A .off (A .jt b n 3) 1) 1 e)->k [.slice d a c]):Ai h (A .off (A .jt b n 3) 1) 1 k:=
 q.sJ (s:=cu) hx j (o:=1) (m:=1) dl (λcs r g=>by
  obtain⟨d,a,c,t,v,u,rfl,l,x,p⟩:=r;exact f d a c l p g)
theorem Ga[bM A]{len:Nat}(q:Sl 79 cu h (.slice b len cap) xs)(hx:xs[i]? =some w){n:Int}(p:n=(i:Int)){k:List Value->Prop}
 (l:∀(a:Option Addr) (d c:Nat),Sl 183 dw h (.slice a d c) w.1.marks->(∀h' e,Le h h'->e [.slice a d c]->Ai h' (A .off (A .jt b n 3) 2) 1 e)->k [.slice a d c]):Ai h (A .off (A .jt b n 3) 2) 1 k:=
 q.sJ (s:=cu) hx p (o:=2) (m:=1) dl (λcs r g=>by
  obtain⟨a,d,c,f,t,j,rfl,v,u,x⟩:=r;exact l f t j u g)
theorem So{b w:Nat}{T:List bS}{W:List (eJ×Bool)}{a:List bZ}(q:kO h c n wb b w T W H a e){p k:Nat}
 (g:h p=some (.cells #[.zP c] 134 (0,0))) (D:h j=some (.cells #[.zI hd.s] 3 (0,0))) (E:h k=some (.cells #[.string hd.table] 9 (0,0))) (F:h m=some (.cells #[.bool hd.x] 4 (0,0)))
 (Y:H.length<=2^18) (Z:a.length<=2^18):
 Ct 232 [.zP p,.zP j,.zP k,.zP m] h
  (λv h'=>Kp [c] h h'/\∃t,v=.bool t/\t=bW H hd/\kO h' c n wb b w T W (cT H hd) (cW H a hd) e):=by
 obtain⟨n1,n2,L,n3,P,M,n4,Q,o,f,u,x,y,B,C,d,i⟩:=q.out;obtain⟨G,I,hx⟩:=hd;refine cB eJb Tryz.func232 λA X=>?_;cbv;refine cy g ?_;cbv;refine cy g ?_;cbv;rw[av A];rw[av A];refine cy f ?_;cbv;refine cy D ?_;cbv;refine cy E ?_;cbv;refine cy F ?_;cbv;refine(cJM d i (by have:=d.len;omega) (by have:=i.len;omega) ⟨G,I,hx⟩).mono (λv U hR=>?_);obtain⟨l,N,n5,R,O,n6,S,t,rfl,J,K,s⟩:=hR;cbv;refine cy (l _ _ g) ?_;cbv;refine zqr ?_;cbv;rw[av A];rw[av A];refine jE (l _ _ f) io (λV r=>?_);have z:=kO.YT (l _ _ f) u x (y.mono (l.t _)) B (C.mono (l.t _)) J K r;cbv;exact⟨(l.kp _).trans z.1,t,rfl,s,z.2⟩
def dR(W:List (eJ×Bool))(s:Int):List Int:=W.map λx=>IntKind.i64.wrap (x.1.s-s)
def aU(T:List bS)(name:ByteArray):List Int:=T.map λx=>dy x.S.name name
theorem BN:(cT H hd).length<=H.length+1:=by
 grind [cT]
theorem gS(l:List bZ)(s:Int):(bX l s).length<=l.length:=Dg _ _
def jx:ByteArray:=⟨#[]⟩
def jA(r:Row)(t:bS):bS×cR×Int:=((bL t r).1,⟨jx,1,r⟩,(bL t r).2)
def fC(k:jq)(t:bS):bS×cR×Int:=if t.S.only=true then(t,⟨jx,0,[]⟩,19)else((bE t k).1,⟨jx,2,(bE t k).2.1⟩,(bE t k).2.2)
theorem dXX{r:Row}{z t:Option Addr}{D B s u y:Nat}(G:Sl 202 bJ h (.slice z D B) cols)(F:Sl 46 bK h (.slice t s u) o)
 (w:h y=some (.cells #[.slice b n c] 46 (0,0))) (q:Sl 45 bG h (.slice b n c) r) (E:s<=2^37):
 Ct 44 [.agg #[.string nm,.slice z D B,.zI key,.bool only,.slice t s u],.zP y] h (λv h'=>Le h h'/\∃a m k d p g f x i e T C,v=.tuple #[.agg #[.string nm,.slice a m k,.zI key,.bool only,.slice d p g],.agg #[.string jx,.zI C.op,.slice f x i],.zI e]/\
  Sl 202 bJ h' (.slice a m k) cols/\Sl 46 bK h' (.slice d p g) T/\Sl 45 bG h' (.slice f x i) C.row/\(⟨⟨⟨nm,cols,key,only⟩,T⟩,C,e⟩:bS×cR×Int)=jA r ⟨⟨nm,cols,key,only⟩,o⟩):=by
 refine cB iQP Tryz.func44 λA N=>?_;cbv;refine cy w ?_;cbv;refine(bZk (nm:=nm) (key:=key) (only:=only) G F q E).mono (λv L hR=>?_);obtain⟨l,a,m,k,d,p,g,e,T,rfl,H,I,J⟩:=hR;cbv;refine cy (l _ _ w) ?_;cbv;refine(YE (q.mono (l.t _))).mono (λv M hR=>?_);obtain⟨j,f,i,rfl,K⟩:=hR;cbv;exact⟨l.trans j,_,_,_,_,_,_,_,_,_,e,T,⟨jx,1,r⟩,rfl,H.mono (j.t _),I.mono (j.t _),K,by unfold jA;rw[<-J]⟩
theorem bKi{p l:Option Addr}{u t o:Nat}(s:Sl 202 bJ h (.slice p u t) cols)(q:Sl 46 bK h (.slice l j m) r)
 (w:h o=some (.cells #[.zI kv.k,.zI kv.n,.string kv.s] 45 (0,0))) (y:j<=2^37):
 Ct 276 [.agg #[.string nm,.slice p u t,.zI key,.bool only,.slice l j m],.zP o] h (λv h'=>Le h h'/\∃b n k a g d c i f e T C,v=.tuple #[.agg #[.string nm,.slice b n k,.zI key,.bool only,.slice a g d],.agg #[.string jx,.zI C.op,.slice c i f],.zI e]/\
  Sl 202 bJ h' (.slice b n k) cols/\Sl 46 bK h' (.slice a g d) T/\Sl 45 bG h' (.slice c i f) C.row/\(⟨⟨⟨nm,cols,key,only⟩,T⟩,C,e⟩:bS×cR×Int)=fC kv ⟨⟨nm,cols,key,only⟩,r⟩):=by
 generalize x:fC kv ⟨⟨nm,cols,key,only⟩,r⟩=D;refine cB eZo Tryz.func276 λA I=>?_;cases only with
 |true=>cbv;exact⟨Le.refl _,_,_,_,_,_,_,_,_,_,19,r,⟨jx,0,[]⟩,rfl,s,q,Sl.nil,by rw[<-x];rfl⟩
 |false=>cbv;refine cy w ?_;cbv;refine(XA (nm:=nm) (key:=key) (only:=false) s q y kv).mono (λv H hR=>?_);obtain⟨B,b,n,k,a,g,d,c,i,f,e,T,R,z,E,F,G,J⟩:=hR;rw[z];cbv;exact⟨B,_,_,_,_,_,_,_,_,_,e,T,⟨jx,2,R⟩,rfl,E,F,G,by grind [fC]⟩
theorem Yw{r:Row}{x i:Option Addr}{z y a w:Nat}(E:Sl 202 bJ h (.slice x z y) cols)(D:Sl 46 bK h (.slice i a j) o)
 (A:h w=some (.cells #[.slice b n c] 46 (0,0))) (q:Sl 45 bG h (.slice b n c) r) (B:a<=2^37) 
 (F:∀h' d s l f t m g u p e T C,Le h h'->Sl 202 bJ h' (.slice d s l) cols->Sl 46 bK h' (.slice f t m) T->Sl 45 bG h' (.slice g u p) C.row->(⟨⟨⟨nm,cols,key,only⟩,T⟩,C,e⟩:bS×cR×Int)=jA r ⟨⟨nm,cols,key,only⟩,o⟩->
  k (.tuple #[.agg #[.string nm,.slice d s l,.zI key,.bool only,.slice f t m],.agg #[.string jx,.zI C.op,.slice g u p],.zI e]) h'):
 Ct 44 [.agg #[.string nm,.slice x z y,.zI key,.bool only,.slice i a j],.zP w] h k:=
 (dXX (nm:=nm) (key:=key) (only:=only) E D A q B).mono (λv h' hR=>by
  grind)
theorem Rp{s d:Option Addr}{t q p:Nat}(y:Sl 202 bJ h (.slice s t q) cols)(x:Sl 46 bK h (.slice d n f) r)
 (u:h p=some (.cells #[.zI kv.k,.zI kv.n,.string kv.s] 45 (0,0))) (w:n<=2^37) 
 (z:∀h' b l g a m i c o j e T C,Le h h'->Sl 202 bJ h' (.slice b l g) cols->Sl 46 bK h' (.slice a m i) T->Sl 45 bG h' (.slice c o j) C.row->(⟨⟨⟨nm,cols,key,only⟩,T⟩,C,e⟩:bS×cR×Int)=fC kv ⟨⟨nm,cols,key,only⟩,r⟩->
  k (.tuple #[.agg #[.string nm,.slice b l g,.zI key,.bool only,.slice a m i],.agg #[.string jx,.zI C.op,.slice c o j],.zI e]) h'):
 Ct 276 [.agg #[.string nm,.slice s t q,.zI key,.bool only,.slice d n f],.zP p] h k:=
 (bKi (nm:=nm) (key:=key) (only:=only) y x u w).mono (λv h' hR=>by
  grind)
end Go.S
