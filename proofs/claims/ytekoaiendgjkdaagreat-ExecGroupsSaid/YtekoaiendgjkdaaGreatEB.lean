import Derived.Test.YtekoaiendgjkdaaGreatEA
import Derived.Test.YtekoaiendgjkdaaGreatRd
set_option linter.unusedVariables false
set_option linter.unusedSimpArgs false
set_option linter.unusedSectionVars false
set_option maxRecDepth 100000
namespace Go.S
open Go.Sx Go.Proofs
def jF(w:cg)(H:List cg):List (Int×Int):=(H.filter (eL w)).map fun h=>(w.s,h.s)
def da(H W:List cg):List (Int×Int):=W.flatMap fun w=>jF w H
def dm(E:List (Int×Int))(a:Int):List Int:=(E.filter fun p=>decide (p.1=a)).map (·.2)
theorem yF{E:List (Int×Int)}{a b:Int}:dm (E++[(a,b)]) a=dm E a++[b]:=by simp[dm]
theorem oI{E:List (Int×Int)}{a b c:Int}(h:c≠a):dm (E++[(a,b)]) c=dm E c:=by simp[dm,Ne.symm h]
theorem Ov(E:List (Int×Int))(a:Int):(dm E a).length<=E.length:=by unfold dm;rw[mQz];exact mXH _ _
structure eJj where
 a:Int
 nb:Nat
 cap:Nat
structure Rg(h0 h:ad)(m:Nat)(E:List (Int×Int)):Prop where
 out:∃G:List eJj,Mp h m (.int .i64) (G.map fun g=>(.int .i64 g.a,.slice (some ⟨g.nb,0,none⟩) (dm E g.a).length g.cap))/\(G.map (·.nb)).Nodup/\(∀g∈G,h0 g.nb=none/\fX 3 dE h g.nb g.cap (dm E g.a))/\∀a,dm E a≠[]->∃g∈G,g.a=a
theorem Og:Tryz.prog.underlying 402=some (.map 3 240):=by kernel_rfl
theorem bJs:Tryz.prog.underlying 391=some (.map 3 4):=by kernel_rfl
theorem u3:Tryz.prog.underlying 3=some (.int .i64):=by kernel_rfl
theorem RS(w:World):(zeroValue 240).run Tryz.prog w=.ok (.slice none 0 0) w:=by
 have h:((Tryz.prog.info? 240).bind (·.zero))=some (.slice none 0 0):=by kernel_rfl
 cases h1:Tryz.prog.info? 240 with
 |none=>rw[h1]at h;cases h
 |some i=>rw[h1]at h;simp at h;simp[zeroValue,typeInfo,h1,h]
theorem Rg.kp{h0 h h':ad}{m:Nat}{E:List (Int×Int)}(q:Rg h0 h m E){bs:List Nat}(k:Kp bs h h')(hm:m∉bs)(hb:∀b∈bs,h0 b≠none):Rg h0 h' m E:=by obtain⟨G,g1,g2,g3,g4⟩:=q.out;exact⟨G,g1.kp k hm,g2,fun g hg=>⟨(g3 g hg).1,(g3 g hg).2.kp k (fun hx=>hb _ hx (g3 g hg).1) (fun _ _ _ _ hx=>by cases hx)⟩,g4⟩
def eF(h:ad)(n:Nat):ad:=fun b=>if b=n then none else h b
theorem fY(h:ad)(n:Nat):Le (eF h n) h:=fun b o q=>by
 unfold eF at q;split at q
 ·cases q
 ·exact q
theorem dP(h:ad)(n:Nat):eF h n n=none:=by unfold eF;rw[if_pos rfl]
theorem MS{h h':ad}{n:Nat}(l:Le (eF h n) h'):Kp [n] h h':=fun b o q hb=>l b o (by unfold eF;rw[if_neg (by simpa using hb)];exact q)
theorem KR{h:ad}{n b:Nat}(q:eF h n b=none):b=n\/h b=none:=by
 unfold eF at q;split at q
 ·rename_i e;exact .inl e
 ·exact .inr q
structure Tk(h0 h:ad)(m:Nat)(E:List (Int×Int))(a:Int)(v:Value):Prop where
 out:∃hb,Le h0 hb/\Le hb h/\cF 3 dE hb h v (dm E a)/\
  ∀h' v' x,Le hb h'->cF 3 dE hb h' v' (dm E a++[x])->∀k:Value->ad->Prop,(∀kY,Rg h0 kY m (E++[(a,x)])->Kp [m] h' kY->(∀tys,bR tys h' kY)->k undef kY)->
   fW (fun _=>Tryz.prog) (fun _=>do Instr.mapUpdate 402 (.map (some m)) (.int .i64 a) v';pure undef) h' k
theorem Pg{h:ad}{m nb cap e:Nat}{d:TypeDesc}{l:List (Value×Value)}{α:Type}{s:Sh α}{xs:List α}(q:Mp h m d l)(o:fX e s h nb cap xs):nb≠m:=fun he=>by
 obtain⟨es,clock,g,-⟩:=q.out;obtain⟨c,g',-⟩:=o.out;rw[he,g]at g';cases g'
theorem Rg.tk{h0 h:ad}{m:Nat}{E:List (Int×Int)}(q:Rg h0 h m E)(l0:Le h0 h)(RF:h0 m=none)(a:Int){k:Value->ad->Prop}(hk:∀b n c,Tk h0 h m E a (.slice b n c)->k (.slice b n c) h):
 fW (fun _=>Tryz.prog) (fun _=>Instr.lookup 402 (.map (some m)) (.int .i64 a) false) h k:=by
 obtain⟨G,g1,g2,g3,g4⟩:=q.out;have MP:=g1.aJD;by_cases ha:∃g∈G,g.a=a
 ·obtain⟨g,hg,rfl⟩:=ha;obtain⟨i,hi⟩:=mQZ hg;obtain⟨ke,lW⟩:=HH.1 hi;refine BN Og u3 g1 (key:=.int .i64 g.a) rfl (mQO.2 ⟨g,hg,rfl⟩) (hk _ _ _ ⟨eF h g.nb,?_,fY h g.nb,?_,?_⟩)
  ·intro b o hb;have ch:b≠g.nb:=fun e=>by rw[e,(g3 g hg).1]at hb;cases hb
   unfold eF;rw[if_neg ch];exact l0 b o hb
  ·exact(g3 g hg).2.buf (dP h g.nb) rfl
  ·intro h' v' x l' b' k' wT;have ch:g.nb≠m:=Pg g1 (g3 g hg).2;have kp:=MS l';have uk:Mp h' m (.int .i64) _:=g1.kp kp (by simpa using Ne.symm ch);rcases b'.out with ⟨b0,e1,e2⟩ | ⟨nb,cap,e1,e2,o⟩
   ·have:=congrArg List.length e2;simp at this
   subst e1;have fZ:(G.map fun g=>(Value.int .i64 g.a,Value.slice (some ⟨g.nb,0,none⟩) (dm E g.a).length g.cap))[i]? =some (.int .i64 g.a,.slice (some ⟨g.nb,0,none⟩) (dm E g.a).length g.cap):=by rw[mQU,hi];rfl
   have dJZ:∀j (g':eJj),G[j]? =some g'->j≠i->g'.a≠g.a/\g'.nb≠g.nb:=fun j g' hj nT=>by
    obtain⟨tX,bZL⟩:=HH.1 hj;constructor
    ·intro he;have p:=mQN.1 MP;rcases mJf nT with aP|aP
     ·have:=p j i (by simpa using tX) (by simpa using ke) aP;simp[bZL,lW,he]at this
     ·have:=p i j (by simpa using ke) (by simpa using tX) aP;simp[bZL,lW,he]at this
    ·intro he;have p:=mQN.1 g2;rcases mJf nT with aP|aP
     ·have:=p j i (by simpa using tX) (by simpa using ke) aP;simp[bZL,lW,he]at this
     ·have:=p i j (by simpa using ke) (by simpa using tX) aP;simp[bZL,lW,he]at this
   refine bKc Og u3 uk (key:=.int .i64 g.a) rfl fZ (fun kY SK k2 t2=>wT kY ⟨G.set i ⟨g.a,nb,cap⟩,?_,?_,?_,?_⟩ k2 t2)
   ·have:(G.set i ⟨g.a,nb,cap⟩).map (fun(g':eJj)=>(Value.int .i64 g'.a,Value.slice (some ⟨g'.nb,0,none⟩) (dm (E++[(g.a,x)]) g'.a).length g'.cap))=
     (G.map fun g=>(Value.int .i64 g.a,Value.slice (some ⟨g.nb,0,none⟩) (dm E g.a).length g.cap)).set i (.int .i64 g.a,.slice (some ⟨nb,0,none⟩) (dm E g.a++[x]).length cap):=by
     apply mXz;intro j;rw[mQU,mXF,mXF,mQz,mQU];by_cases nT:i=j
     ·subst nT;rw[if_pos rfl,if_pos rfl,if_pos ke];simp[yF,ke]
     ·rw[if_neg nT,if_neg nT];cases hj:G[j]? with
      |none=>rfl
      |some g'=>simp[oI (dJZ j g' hj (Ne.symm nT)).1]
    rw[this];exact SK
   ·rw[mZd];refine mQN.2 (fun p r hp hr aQn=>?_);have Ib:∀j (g':eJj),G[j]? =some g'->j≠i->g'.nb≠nb:=fun j g' hj nT e=>by
     rcases KR e2 with e3|e3
     ·exact(dJZ j g' hj nT).2 (e.trans e3)
     ·exact(g3 g' (GD hj)).2.has (by rw[e];exact e3)
    simp only[mXo,mQz]at hp hr;rw[mZI,mZI];by_cases h1:i=p
    ·subst h1;rw[if_pos rfl,if_neg (by omega),mZg];exact Ne.symm (Ib r G[r] (by simp[hr]) (by omega))
    ·rw[if_neg h1];by_cases h2:i=r
     ·subst h2;rw[if_pos rfl,mZg];exact Ib p G[p] (by simp[hp]) (by omega)
     ·rw[if_neg h2];exact mQN.1 g2 p r (by simpa using hp) (by simpa using hr) aQn
   ·intro g' RJ;obtain⟨j,hj⟩:=mQZ RJ;rw[mXF]at hj;by_cases nT:i=j
    ·subst nT;rw[if_pos rfl,if_pos ke]at hj;cases hj;refine⟨?_,?_⟩
     ·rcases KR e2 with e3|e3
      ·rw[e3];exact(g3 g hg).1
      ·exact l0.none e3
     ·rw[yF];exact o.kp k2 (by simpa using Pg uk o) (t2 _)
    ·rw[if_neg nT]at hj;obtain⟨f1,f2⟩:=dJZ j g' hj (Ne.symm nT);obtain⟨f3,f4⟩:=g3 g' (GD hj);have o':=f4.kp kp (by simpa using f2) (fun _ _ _ _ hx=>by cases hx);refine⟨f3,?_⟩;rw[oI f1];exact o'.kp k2 (by simpa using Pg uk o') (t2 _)
   ·intro c hc;by_cases eZH:c=g.a
    ·exact⟨⟨g.a,nb,cap⟩,GD (i:=i) (by rw[mXF,if_pos rfl,if_pos ke]),eZH.symm⟩
    ·rw[oI eZH]at hc;obtain⟨g',RJ,he⟩:=g4 c hc;obtain⟨j,hj⟩:=mQZ RJ;have nT:i≠j:=fun e=>by subst e;rw[hi]at hj;cases hj;exact eZH he.symm
     exact⟨g',GD (i:=j) (by rw[mXF,if_neg nT];exact hj),he⟩
 ·have fXH:dm E a=[]:=Classical.byContradiction fun ch=>ha (g4 a ch);have aKv:∀p∈(G.map fun g=>(Value.int .i64 g.a,Value.slice (some ⟨g.nb,0,none⟩) (dm E g.a).length g.cap)),p.1≠.int .i64 a:=fun p hp e=>by
   obtain⟨g,hg,rfl⟩:=mQO.1 hp;simp at e;exact ha ⟨g,hg,e⟩
  refine xD Og u3 RS g1 (key:=.int .i64 a) rfl aKv (hk _ _ _ ⟨h,l0,Le.refl _,by rw[fXH];exact cF.nil,?_⟩);intro h' v' x l' b' k' wT;have uk:=g1.kp (l'.kp []) (by simp);rcases b'.out with ⟨b0,e1,e2⟩ | ⟨nb,cap,e1,e2,o⟩
  ·have:=congrArg List.length e2;simp at this
  subst e1;refine vz Og u3 uk (key:=.int .i64 a) rfl aKv (fun kY SK k2 t2=>wT kY ⟨G++[⟨a,nb,cap⟩],?_,?_,?_,?_⟩ k2 t2)
  ·have:(G++[(⟨a,nb,cap⟩:eJj)]).map (fun(g':eJj)=>(Value.int .i64 g'.a,Value.slice (some ⟨g'.nb,0,none⟩) (dm (E++[(a,x)]) g'.a).length g'.cap))=
    (G.map fun g=>(Value.int .i64 g.a,Value.slice (some ⟨g.nb,0,none⟩) (dm E g.a).length g.cap))++[(.int .i64 a,.slice (some ⟨nb,0,none⟩) (dm E a++[x]).length cap)]:=by
    rw[mZs];congr 1
    ·refine mXE (fun g hg=>?_);rw[oI (fun e=>ha ⟨g,hg,e⟩)]
    ·simp[yF]
   rw[this];exact SK
  ·rw[mZs];refine List.nodup_append.2 ⟨g2,by simp,?_⟩;intro p hp r hr e;simp at hr;obtain⟨g,hg,rfl⟩:=mQO.1 hp;exact(g3 g hg).2.has (by rw[e,hr];exact e2)
  ·intro g' RJ;rcases mQv.1 RJ with RJ|RJ
   ·obtain⟨f3,f4⟩:=g3 g' RJ;have o':=f4.mono (l'.t _);refine⟨f3,?_⟩;rw[oI (fun e=>ha ⟨g',RJ,e⟩)];exact o'.kp k2 (by simpa using Pg uk o') (t2 _)
   ·simp at RJ;subst RJ;refine⟨l0.none e2,?_⟩;rw[yF];exact o.kp k2 (by simpa using Pg uk o) (t2 _)
  ·intro c hc;by_cases eZH:c=a
   ·exact⟨⟨a,nb,cap⟩,by simp,eZH.symm⟩
   ·rw[oI eZH]at hc;obtain⟨g',RJ,he⟩:=g4 c hc;exact⟨g',by simp[RJ],he⟩
theorem Uu{H W:List cg}{i:Nat}{w:cg}(h:W[i]? =some w):da H (W.take (i+1))=da H (W.take i)++jF w H:=by unfold da;rw[mXc,h];simp
theorem Uv{w o:cg}{H:List cg}{j:Nat}(h:H[j]? =some o)(ha:eL w o=true):jF w (H.take (j+1))=jF w (H.take j)++[(w.s,o.s)]:=by unfold jF;rw[mXc,h,mZf];simp[ha]
theorem QH{w o:cg}{H:List cg}{j:Nat}(h:H[j]? =some o)(ha:eL w o=false):jF w (H.take (j+1))=jF w (H.take j):=by unfold jF;rw[mXc,h,mZf];simp[ha]
theorem Iy(w:cg)(H:List cg):(jF w H).length<=H.length:=by unfold jF;rw[mQz];exact mXH _ _
theorem Ew(H W:List cg):(da H W).length<=W.length*H.length:=by
 induction W with
 |nil=>simp[da]
 |cons w r ih=>
  have:da H (w::r)=jF w H++da H r:=by simp[da]
  rw[this,nX,mQx,mXu];have:=Iy w H;omega
theorem DP{a b:Nat}(ha:a<=2^18)(hb:b<=2^18):a*b<=2^36:=by
 have:=mZN ha hb;have e:(2:Nat)^18*2^18=2^36:=by decide
 omega
theorem aZj{H W:List cg}{h:ad}{b1 b2:Option Addr}{n1 c1 n2 c2:Nat}(q1:Sl 205 bG h (.slice b1 n1 c1) H)(q2:Sl 205 bG h (.slice b2 n2 c2) W)(lG:n1<=2^18)(mY:n2<=2^18):
 Ct 309 [.agg #[.slice b1 n1 c1,.slice b2 n2 c2]] h (fun v h'=>Le h h'/\∃rb m,v=.pointer (some ⟨rb,0,none⟩)/\h rb=none/\h m=none/\h' rb=some (.cells #[.map (some m),.int .i64 0] 407 (0,0))/\Rg h h' m (da H W)):=by
 obtain⟨A,hA⟩:=Ar.ex;have wE:=q1.len;have pz:=q2.len;have hE:∀i,(da H (W.take i)).length<=2^36:=fun i=>by
  have:=Ew H (W.take i);have h2:(W.take i).length<=2^18:=by rw[mQw];omega
  have:=DP h2 (show H.length<=2^18 by omega);omega
 refine ah A (ax fKy.aK fKy.bF) Tryz.func309 rfl (by kernel_rfl) ?_;cbv;intro m h1 hm e1;have l1:Le h h1:=by rw[e1];exact Le.set hm
 have g1:=(congrFun e1 m).trans ae;cbv;intro rb h2 KJ e2;have l2:Le h1 h2:=by rw[e2];exact Le.set KJ
 have gr:=(congrFun e2 rb).trans ae;have gm:=l2 _ _ g1;have jZ:=l1.trans l2;have hZH:Rg h h2 m (da H (W.take 0)):=⟨[],Mp.new gm,by simp,by simp,fun a ha=>absurd rfl ha⟩;cbv;refine aX.go (G:=Int) (fun z=>[(14,.v (.int .i64 z))]) (fun _=>[(1,[.slice b1 n1 c1,.slice b2 n2 c2])])
  (fun k z h'=>∃i:Nat,aS z i/\k=n2-i/\i<=n2/\Le h h'/\h' rb=some (.cells #[.map (some m),.int .i64 0] 407 (0,0))/\Rg h h' m (da H (W.take i))) n2 0 ⟨?_,?_,?_⟩ ⟨0,⟨rfl⟩,by omega,by omega,jZ,gr,hZH⟩ ?_
 ·cbv
 ·cbv
 ·cbv
 ·intro k z h' hI;cbv;obtain⟨i,hz,hk,hi,hle,Wy,rg⟩:=hI;refine bh (fun hc=>?_) (fun hc=>?_)
  ·have aP:=hz.lt hc;clear hc;cbv;obtain⟨w,hw⟩:=aE (xs:=W) (i:=i) (by omega);refine⟨⟨q2.aT (by omega),hz.ix aP⟩,?_⟩;cbv;refine(q2.mono (hle.t _)).load hw hz.eq (fun cs ay=>?_);have ay:cs=[.int .i64 w.s,.string w.table,.bool w.x]:=ay;subst ay;have jZx:=Uu (H:=H) hw;have lQq:=hE (i+1);rw[jZx]at lQq;have hZH:Rg h h' m (da H (W.take i)++jF w (H.take 0)):=by simpa[jF]using rg
   cbv;refine aX.go (G:=Int) (fun z=>[(21,.v (.int .i64 z))]) (fun _=>[(5,[.int .i64 w.s,.string w.table,.bool w.x]),(1,[.slice b1 n1 c1,.slice b2 n2 c2])])
    (fun k z h'=>∃j:Nat,aS z j/\k=n1-j/\j<=n1/\Le h h'/\h' rb=some (.cells #[.map (some m),.int .i64 0] 407 (0,0))/\Rg h h' m (da H (W.take i)++jF w (H.take j))) n1 0 ⟨?_,?_,?_⟩ ⟨0,⟨rfl⟩,by omega,by omega,hle,Wy,hZH⟩ ?_
   ·cbv
   ·cbv
   ·cbv
   ·intro k2 z2 h3 hI;cbv;obtain⟨j,dL,sJ,hj,Qb,eQa,eKf⟩:=hI;refine bh (fun hc=>?_) (fun hc=>?_)
    ·have iV:=dL.lt hc;clear hc;cbv;obtain⟨o,ho⟩:=aE (xs:=H) (i:=j) (by omega);refine⟨⟨q1.aT (by omega),dL.ix iV⟩,?_⟩;cbv;refine(q1.mono (Qb.t _)).load ho dL.eq (fun cs ay=>?_);have ay:cs=[.int .i64 o.s,.string o.table,.bool o.x]:=ay;subst ay;cbv;refine(IX (a:=w) (b:=o)).mono (fun v h4 hR=>?_);obtain⟨l4,t,rfl,et⟩:=hR;have RO:=l4 _ _ eQa;have cJr:=eKf.kp (l4.kp []) (by simp) (by simp);have Ps:=Qb.trans l4;cases t with
     |true=>
      have gKj:=Uv ho et.symm;have lKt:(da H (W.take i)++jF w (H.take j)).length<=2^38:=by have:=Iy w (H.take j);have h5:=hE i;rw[mQw]at this;rw[nX];omega
      cbv;rw[ai A];refine aB RO rfl rfl ?_;cbv;rw[ai A];refine aB RO rfl rfl ?_;cbv;refine⟨?_,?_⟩
      ·refine cJr.tk Ps hm w.s (fun bb nn cc tk=>?_);obtain⟨hb,t1,t2,t3,t4⟩:=tk.out;have qC:nn<=2^38:=by have:=t3.sl.len;have:=Ov (da H (W.take i)++jF w (H.take j)) w.s;omega
       cbv;refine aB RO rfl rfl ?_;cbv;refine⟨⟨_,rfl,rfl⟩,?_⟩;cbv;intro Ad h5 yf e5;have l5:Le h4 h5:=by rw[e5];exact Le.set yf
       have g5:=(congrFun e5 Ad).trans ae;have aQx:=l5 _ _ RO;cbv;refine aB aQx rfl rfl ?_;cbv;refine⟨⟨_,rfl,rfl⟩,?_⟩;cbv;refine(t3.mono (l5.t _)).append (bA (s:=dE) g5 (x:=o.s) rfl) (by decide) rfl (by decide) (by omega) (t2.trans l5) (fun mm b' c' h6 sf l6 t6 k6 cKD=>?_);have dKZ:=t6 [407] (by decide) _ _ _ _ (by decide) aQx;cbv;refine aB dKZ rfl rfl ?_;cbv;refine⟨⟨_,rfl,rfl⟩,?_⟩;cbv;refine t4 h6 _ o.s l6 cKD _ (fun h7 eKe k7 t7=>?_);have l7:Le h h7:=(t1.trans l6).dJ (by simpa using hm) k7;have bQj:=t7 [407] _ _ _ _ (by decide) dKZ;rw[mXd,<-gKj]at eKe;cbv;refine⟨n1-(j+1),_,by omega,⟨?_,?_,?_⟩,j+1,dL.succ (A:=A) (by omega),rfl,by omega,l7,bQj,eKe⟩
       ·cbv
       ·cbv
       ·cbv
      ·intro Ad h5 yf e5;have l5:Le h4 h5:=by rw[e5];exact Le.set yf
       have g5:=(congrFun e5 Ad).trans ae;have aQx:=l5 _ _ RO;have gJa:=cJr.kp (l5.kp []) (by simp) (by simp);cbv;refine aB aQx rfl rfl ?_;cbv;refine⟨⟨_,rfl,rfl⟩,?_⟩;cbv;refine aB aQx rfl rfl ?_;cbv;refine⟨⟨_,rfl,rfl⟩,?_⟩;cbv;refine gJa.tk (Ps.trans l5) hm w.s (fun bb nn cc tk=>?_);obtain⟨hb,t1,t2,t3,t4⟩:=tk.out;have qC:nn<=2^38:=by have:=t3.sl.len;have:=Ov (da H (W.take i)++jF w (H.take j)) w.s;omega
       cbv;refine aB aQx rfl rfl ?_;cbv;refine⟨⟨_,rfl,rfl⟩,?_⟩;cbv;refine(t3).append (bA (s:=dE) g5 (x:=o.s) rfl) (by decide) rfl (by decide) (by omega) t2 (fun mm b' c' h6 sf l6 t6 k6 cKD=>?_);have dKZ:=t6 [407] (by decide) _ _ _ _ (by decide) aQx;cbv;refine aB dKZ rfl rfl ?_;cbv;refine⟨⟨_,rfl,rfl⟩,?_⟩;cbv;refine t4 h6 _ o.s l6 cKD _ (fun h7 eKe k7 t7=>?_);have l7:Le h h7:=(t1.trans l6).dJ (by simpa using hm) k7;have bQj:=t7 [407] _ _ _ _ (by decide) dKZ;rw[mXd,<-gKj]at eKe;cbv;refine⟨n1-(j+1),_,by omega,⟨?_,?_,?_⟩,j+1,dL.succ (A:=A) (by omega),rfl,by omega,l7,bQj,eKe⟩
       ·cbv
       ·cbv
       ·cbv
     |false=>
      have gKj:=QH ho et.symm;cbv;refine⟨n1-(j+1),_,by omega,⟨?_,?_,?_⟩,j+1,dL.succ (A:=A) (by omega),rfl,by omega,Ps,RO,?_⟩
      ·cbv
      ·cbv
      ·cbv
      ·rw[gKj];exact cJr
    ·have lN:=dL.ge hc;rw[show H.take j=H from mQM (by omega),<-jZx]at eKf;cbv;refine⟨n2-(i+1),_,by omega,⟨?_,?_,?_⟩,i+1,hz.succ (A:=A) (by omega),rfl,by omega,Qb,eQa,eKf⟩
     ·cbv
     ·cbv
     ·cbv
  ·have lN:=hz.ge hc;rw[mQM (by omega)]at rg;cbv;exact⟨hle,rb,m,rfl,l1.none KJ,hm,Wy,rg⟩
def dU(st:List Int×List Int)(k:Int):List Int×List Int:=if decide (k∈st.1)=true then st else(st.1++[k],st.2++[k])
def cZr(E:List (Int×Int)):Nat->List Int×List Int->List Int
 |0,st=>st.1
 |n+1,st=>match st.2 with
  | []=>st.1
  |a::r=>cZr E n ((dm E a).foldl dU (st.1,r))
def over(E:List (Int×Int))(s:Int):List Int:=cZr E (E.length+2) ([],[s])
def BP(E:List (Int×Int))(seen:List Int):Nat:=(E.filter fun p=> !decide (p.2∈seen)).length
theorem OQ(seen:List Int)(y:Int):∀L:List (Int×Int),BP L (seen++[y])<=BP L seen
 | []=>mQt _
 |e::r=>by
  have ih:=OQ seen y r;unfold BP at ih |-;by_cases h1:e.2∈seen
  ·have h2:e.2∈seen++[y]:=by simp[h1]
   rw[mXQ (by rw[kS h2];simp),mXQ (by rw[kS h1];simp)];exact ih
  ·rw[mZc (p:=fun p:Int×Int=> !decide (p.2∈seen)) (by rw[nM h1];simp)];by_cases h2:e.2∈seen++[y]
   ·rw[mXQ (by rw[kS h2];simp),mQx];omega
   ·rw[mZc (by rw[nM h2];simp),mQx,mQx];omega
theorem aZw(seen:List Int)(x y:Int)(hk:y∉seen):∀L:List (Int×Int),(x,y)∈L->BP L (seen++[y])+1<=BP L seen
 | [],h=>by cases h
 |e::r,h=>by
  by_cases he:e=(x,y)
  ·subst he;have iQV:=OQ seen y r;unfold BP at iQV |-;rw[mXQ (by simp),mZc (p:=fun p:Int×Int=> !decide (p.2∈seen)) (by simpa using hk),mQx];omega
  ·have hr:(x,y)∈r:=by
    rcases mQs.1 h with h|h
    ·exact absurd h.symm he
    ·exact h
   have ih:=aZw seen x y hk r hr;unfold BP at ih |-;by_cases h1:e.2∈seen
   ·have h2:e.2∈seen++[y]:=by simp[h1]
    rw[mXQ (by rw[kS h2];simp),mXQ (by rw[kS h1];simp)];exact ih
   ·rw[mZc (p:=fun p:Int×Int=> !decide (p.2∈seen)) (by rw[nM h1];simp)];by_cases h2:e.2∈seen++[y]
    ·rw[mXQ (by rw[kS h2];simp),mQx];omega
    ·rw[mZc (by rw[nM h2];simp),mQx,mQx];omega
theorem Vu{E:List (Int×Int)}{seen:List Int}{k:Int}(hk:k∉seen){a:Int}(hE:k∈dm E a):BP E (seen++[k])+1<=BP E seen:=by unfold dm at hE;obtain⟨⟨x,y⟩,hm,rfl⟩:=mQO.1 hE;exact aZw seen x y hk E (mXt.1 hm).1
theorem eQA:pV Tryz.prog 344 Tryz.f344:=⟨Tryz.func344,by kernel_rfl,by kernel_rfl,by kernel_rfl⟩
theorem eXy{h:ad}{b o:Nat}{x:Int}(q:vr h ⟨b,o,none⟩ (.int .i64 x)):Ct 327 [.pointer (some ⟨b,o,none⟩),.int .i64 1] h (fun v h'=>∃z y,v=.int .i64 z/\Up h b o (.int .i64 y) h'):=by obtain⟨A,hA⟩:=Ar.ex;refine ah A (ax fKi.aK fKi.bF) Tryz.func327 rfl (by kernel_rfl) ?_;cbv;rw[ai A];refine WG eQA (by kernel_rfl) q (fun c e h1 e1 e2=>?_);have hu:Up h b o (.int .i64 _) h1:=⟨c,e,e1,e2⟩;generalize IntKind.i64.wrap (x+1)=y at *;cbv;exact⟨_,y,rfl,hu⟩
theorem Rg.fQo{h0 h h':ad}{m rb:Nat}{E:List (Int×Int)}{cs:List Value}(q:Rg h0 h m E)(gr:h rb=some (.cells (List.toArray cs) 407 (0,0)))(kp:Kp [rb] h h')(a:Int){k:Value->ad->Prop}(hk:∀b n c,Sl 3 dE h (.slice b n c) (dm E a)->k (.slice b n c) h'):
 fW (fun _=>Tryz.prog) (fun _=>Instr.lookup 402 (.map (some m)) (.int .i64 a) false) h' k:=by
 obtain⟨G,g1,g2,g3,g4⟩:=q.out;have hm:m∉[rb]:=by intro e;simp at e;obtain⟨es,clock,g,-⟩:=g1.out;rw[e,gr]at g;cases g
 have uk:=g1.kp kp hm;by_cases ha:∃g∈G,g.a=a
 ·obtain⟨g,hg,rfl⟩:=ha;exact BN Og u3 uk (key:=.int .i64 g.a) rfl (mQO.2 ⟨g,hg,rfl⟩) (hk _ _ _ ((g3 g hg).2.sl rfl))
 ·refine xD Og u3 RS uk (key:=.int .i64 a) rfl (fun p hp e=>?_) (hk _ _ _ ?_)
  ·obtain⟨g,hg,rfl⟩:=mQO.1 hp;simp at e;exact ha ⟨g,hg,e⟩
  ·have:dm E a=[]:=Classical.byContradiction fun ch=>ha (g4 a ch);rw[this];exact Sl.nil
abbrev DT(l:List Int):List (Value×Value):=l.map fun k=>(.int .i64 k,.bool true)
theorem OI{l:List Int}{k:Int}:(Value.int .i64 k,Value.bool true)∈DT l↔k∈l:=by simp[DT]
theorem Mq{h:ad}{m:Nat}{l:List Int}(q:Mp h m (.int .i64) (DT l))(a:Int){k:Value->ad->Prop}(hk:∀t,t=decide (a∈l)->k (.bool t) h):
 fW (fun _=>Tryz.prog) (fun _=>Instr.lookup 391 (.map (some m)) (.int .i64 a) false) h k:=by
 by_cases ha:a∈l
 ·exact BN bJs u3 q (key:=.int .i64 a) rfl (OI.2 ha) (hk true (by simp[ha]))
 ·refine xD bJs u3 cJj q (key:=.int .i64 a) rfl (fun p hp e=>?_) (hk false (by simp[ha]));obtain⟨k,hk,rfl⟩:=mQO.1 hp;simp at e;exact ha (e ▸ hk)
theorem dZk{h:ad}{m:Nat}{l:List Int}(q:Mp h m (.int .i64) (DT l)){a:Int}(ha:a∉l){k:Value->ad->Prop}(hK:∀h',Mp h' m (.int .i64) (DT (l++[a]))->Kp [m] h h'->(∀tys,bR tys h h')->k undef h'):
 fW (fun _=>Tryz.prog) (fun _=>do Instr.mapUpdate 391 (.map (some m)) (.int .i64 a) (.bool true);pure undef) h k:=by
 refine vz bJs u3 q (key:=.int .i64 a) rfl (fun p hp e=>?_) (fun h' mp k' t'=>hK h' ?_ k' t')
 ·obtain⟨k,hk,rfl⟩:=mQO.1 hp;simp at e;exact ha (e ▸ hk)
 ·simpa[DT]using mp
theorem Nq{h:ad}{rb m:Nat}{c:List Value}{d:TypeDesc}{l:List (Value×Value)}{e:Nat}(g:h rb=some (.cells (List.toArray c) e (0,0)))(q:Mp h m d l):m≠rb:=fun he=>by
 obtain⟨es,clock,g',-⟩:=q.out;rw[he,g]at g';cases g'
theorem Mp.obj{h h':ad}{m:Nat}{d:TypeDesc}{l:List (Value×Value)}{e:Nat}(q:Mp h m d l)(k:∀j o,h j=some o->(∀c fr,o≠.cells c e fr)->h' j=some o):Mp h' m d l:=by obtain⟨es,clock,g,g2⟩:=q.out;exact⟨es,clock,k _ _ g (fun c fr e=>by cases e),g2⟩
theorem Vw{h0 h:ad}{rb mr:Nat}{x:Int}{E:List (Int×Int)}(gr:h rb=some (.cells #[.map (some mr),.int .i64 x] 407 (0,0)))(rg:Rg h0 h mr E)(hE:E.length<=2^37)(s:Int):
 Ct 310 [.pointer (some ⟨rb,0,none⟩),.int .i64 s] h (fun v h'=>Kp [rb] h h'/\∃m x',v=.map (some m)/\h m=none/\h' rb=some (.cells #[.map (some mr),.int .i64 x'] 407 (0,0))/\Mp h' m (.int .i64) (DT (over E s))):=by
 obtain⟨A,hA⟩:=Ar.ex;have KJ:eF h rb rb=none:=dP h rb;refine ah A (ax fKx.aK fKx.bF) Tryz.func310 rfl (by kernel_rfl) ?_;cbv;intro m h1 hm e1;have l1:Le h h1:=by rw[e1];exact Le.set hm
 have g1:=(congrFun e1 m).trans ae;have hJG:Mp h1 m (.int .i64) (DT []):=Mp.new g1;cbv;intro nb h2 gY e2;have l2:Le h1 h2:=by rw[e2];exact Le.set gY
 have g2:=(congrFun e2 nb).trans ae;have jZ:=l1.trans l2;have fZQ:=jZ _ _ gr;have SK:=hJG.kp (l2.kp []) (by simp);have Ap:Le (eF h rb) h2:=(fY h rb).trans jZ;have iQS:eF h rb nb=none:=((fY h rb).trans l1).none gY;have jq:lQ 3 dE (eF h rb) h2 (.slice (some ⟨nb,0,none⟩) 1 1) [s] 1:=
  ((Vy (s:=dE) g2 (x:=s) rfl).buf iQS rfl).t (by simp)
 have YN:BP E []=E.length:=by simp[BP]
 cbv;refine aX.go (G:=Option Addr×Nat×Nat) (fun g=>[(6,.v (.slice g.1 g.2.1 g.2.2))]) (fun _=>[])
  (fun k g h'=>∃seen todo n p x',Kp [rb] h h'/\h' rb=some (.cells #[.map (some mr),.int .i64 x'] 407 (0,0))/\Mp h' m (.int .i64) (DT seen)/\lQ 3 dE (eF h rb) h' (.slice g.1 g.2.1 g.2.2) todo p/\
   k=BP E seen+todo.length/\k<=n/\cZr E n (seen,todo)=over E s/\p+BP E seen<=E.length+1/\todo.length<=p) (E.length+1) (some ⟨nb,0,none⟩,1,1) ⟨?_,?_,?_⟩ ⟨[],[s],E.length+2,1,x,MS Ap,fZQ,SK,jq,by rw[YN];rfl,by omega,rfl,by rw[YN];omega,by simp⟩ ?_
 ·cbv
 ·cbv
 ·cbv
 ·intro k g h' hI;cbv;obtain⟨seen,todo,n,p,x',kp,Wy,mp,hb,hk,MP,Uc,hp,eZr⟩:=hI;obtain⟨gb,gl,gc⟩:=g;have hb:lQ 3 dE (eF h rb) h' (.slice gb gl gc) todo p:=hb;have An:gl=todo.length:=hb.sl.len;generalize eQH:A .aI .gtr (A .nat gl) 0=u;have gKz:=eQH;rw[bO A,hA.nat]at eQH;simp only[mQJ]at eQH;have hu:u=true->0<gl:=fun e=>by rw[e]at eQH;have:=mQB eQH;omega
  have PH:u=false->gl=0:=fun e=>by rw[e]at eQH;have:=mQI eQH;omega
  cases u with
  |false=>
   have h0:=PH rfl;have ht:todo=[]:=mQT (by omega);subst ht;have bZF:over E s=seen:=by rw[<-Uc];cases n<;>rfl
   cbv;exact⟨kp,m,x',rfl,hm,Wy,by rw[bZF];exact mp⟩
  |true=>
   have h0:=hu rfl;cases todo with
   |nil=>simp at An;omega
   |cons a r=>
    cbv;rw[ai A];refine(eXy (og Wy rfl)).mono (fun v h3 hR=>?_);obtain⟨z,y,rfl,kJz⟩:=hR;have e3:=kJz.exp Wy;have eQa:h3 rb=some (.cells #[.map (some mr),.int .i64 y] 407 (0,0)):=(congrFun e3 rb).trans ae;have fZk:=Nq Wy mp;have k3:Kp [rb] h' h3:=by rw[e3];exact Kp.set (by simp)
    have t3:bR [3] h' h3:=by rw[e3];exact bR.set Wy (by decide)
    have gJy:=kp.trans k3;have dZL:=mp.kp k3 (by simpa using fZk);have ry:=hb.mono t3;have cJ:gb.isSome=true/\(0:Int)<=0/\(0:Int)<(gl:Int):=⟨ry.sl.aT (by omega),by omega,by omega⟩;cbv;rw[ai A];refine aB eQa rfl rfl ?_;cbv;refine⟨cJ,?_⟩;cbv;refine ry.sl.load (i:=0) (x:=a) rfl (n:=0) rfl (fun cs ay=>?_);have ay:cs=[.int .i64 a]:=ay;subst ay;cbv;refine rg.fQo gr gJy a (fun bb nn cc qs=>?_);have qC:nn=(dm E a).length:=qs.len;have jXB:=qs.bound;obtain⟨n',TD⟩:∃n',n=n'+1:=⟨n-1,by simp at hk;omega⟩;subst TD;have Aq:cZr E n' ((dm E a).foldl dU (seen,r))=over E s:=Uc;simp only[mQx]at hk eZr;cbv;refine aX.go (G:=Int×Option Addr×Nat×Nat) (fun g=>[(30,.v (.int .i64 g.1)),(6,.v (.slice g.2.1 g.2.2.1 g.2.2.2))]) (fun _=>[])
     (fun k2 g h4=>∃j p,aS g.1 j/\k2=nn-j/\j<=nn/\Kp [rb] h h4/\h4 rb=some (.cells #[.map (some mr),.int .i64 y] 407 (0,0))/\Mp h4 m (.int .i64) (DT (((dm E a).take j).foldl dU (seen,r)).1)/\
      lQ 3 dE (eF h rb) h4 (.slice g.2.1 g.2.2.1 g.2.2.2) (a::(((dm E a).take j).foldl dU (seen,r)).2) p/\
      BP E (((dm E a).take j).foldl dU (seen,r)).1+(((dm E a).take j).foldl dU (seen,r)).2.length<=BP E seen+r.length/\
      p+BP E (((dm E a).take j).foldl dU (seen,r)).1<=E.length+1/\(((dm E a).take j).foldl dU (seen,r)).2.length+1<=p) nn (0,gb,gl,gc) ⟨?_,?_,?_⟩
      ⟨0,p,⟨rfl⟩,by omega,by omega,gJy,eQa,dZL,ry,mQt _,hp,eZr⟩ ?_
    ·cbv
    ·cbv
    ·cbv
    ·intro k2 g h4 hI;cbv;obtain⟨j,p4,hz,sJ,hj,dJe,RO,Yu,cQP,hM,aKq,iQl⟩:=hI;obtain⟨z4,RQ,fZR,iZQ⟩:=g;have hz:aS z4 j:=hz;generalize iJq:((dm E a).take j).foldl dU (seen,r)=st at *;have cQP:lQ 3 dE (eF h rb) h4 (.slice RQ fZR iZQ) (a::st.2) p4:=cQP;have kKC:fZR=st.2.length+1:=cQP.sl.len;refine bh (fun hc=>?_) (fun hc=>?_)
     ·have aP:=hz.lt hc;clear hc;obtain⟨w,hw⟩:=aE (xs:=dm E a) (i:=j) (by omega);have lM:w∈dm E a:=GD hw;have NM:((dm E a).take (j+1)).foldl dU (seen,r)=dU st w:=by rw[mXc,hw,List.foldl_append,iJq];rfl
      cbv;refine⟨⟨qs.aT (by omega),hz.ix aP⟩,?_⟩;cbv;refine(qs.mono (Kp.fQr dJe gr (by decide))).load hw hz.eq (fun cs ay=>?_);have ay:cs=[.int .i64 w]:=ay;subst ay;cbv;refine Mq Yu w (fun t ht=>?_);cases t with
      |true=>
       have gK:A .not true=false:=by rw[hA.not];rfl
       have nW:dU st w=st:=by unfold dU;rw[<-ht];rfl
       cbv;rw[gK];cbv;refine⟨nn-(j+1),(_,RQ,fZR,iZQ),by omega,⟨?_,?_,?_⟩,j+1,p4,hz.succ (A:=A) (by omega),rfl,by omega,dJe,RO,?_⟩
       ·cbv
       ·cbv
       ·cbv
       ·rw[NM,nW];exact⟨Yu,cQP,hM,aKq,iQl⟩
      |false=>
       have gK:A .not false=true:=by rw[hA.not];rfl
       have PZ:w∉st.1:=mQI ht.symm;have nW:dU st w=(st.1++[w],st.2++[w]):=by unfold dU;rw[<-ht];rfl
       have cKg:=Vu PZ lM;cbv;rw[gK];cbv;refine dZk Yu PZ (fun h5 eZg k5 t5=>?_);have kKa:=Nq RO Yu;have aQx:=t5 [407] _ _ _ _ (by decide) RO;have Mw:Kp [rb] h h5:=fun b o yV JD=>by
        have:=dJe b o yV JD;refine k5 b o this ?_;intro e;simp at e;rw[e,hm]at yV;cases yV
       have qX:=cQP.mono (t5 _);cbv;intro Yr h6 TC e6;have l6:Le h5 h6:=by rw[e6];exact Le.set TC
       have g6:=(congrFun e6 Yr).trans ae;have dKZ:=l6 _ _ aQx;have gJp:=eZg.kp (l6.kp []) (by simp);have bZs:=Mw.trans (l6.kp _);have cKq:Le (eF h rb) h6:=fun b o yV=>by
        unfold eF at yV;split at yV
        ·cases yV
        ·rename_i ch;exact bZs b o yV (by simpa using ch)
       cbv;refine(qX.mono (l6.t _)).append (bA (s:=dE) g6 (x:=w) rfl) (by decide) rfl (by decide) (by omega) (by omega) (by omega) cKq (fun mm b' c' h7 sf l7 t7 mP k7=>?_);have bQj:=t7 [407] (by decide) _ _ _ _ (by decide) dKZ;have dZK:=Mp.obj gJp k7;have DA:Kp [rb] h h7:=MS l7;cbv;refine⟨nn-(j+1),(_,b',mm,c'),by omega,⟨?_,?_,?_⟩,j+1,p4+1,hz.succ (A:=A) (by omega),rfl,by omega,DA,bQj,?_⟩
       ·cbv
       ·cbv
       ·cbv
       ·rw[NM,nW];refine⟨dZK,by simpa using mP,?_,?_,?_⟩
        ·simp only[nX,mQu];omega
        ·simp only;omega
        ·simp only[nX,mQu];omega
     ·have lN:=hz.ge hc;have cQH:j=nn:=by omega
      rw[show(dm E a).take j=dm E a from mQM (by omega)]at iJq;have KS:aS (1:Int) 1:=⟨rfl⟩;have rQ:(0:Int)<=1/\(1:Int)<=(fZR:Int):=by omega
      have aKj:=cQP.tail (A:=A) KS (gA (A:=A) (n:=fZR) KS) (gA (A:=A) (n:=iZQ) KS);rw[iJq]at Aq;cbv;refine⟨rQ,?_⟩;cbv;refine⟨BP E st.1+st.2.length,(_,_,_),by omega,⟨?_,?_,?_⟩,st.1,st.2,n',p4,y,dJe,RO,Yu,aKj,rfl,by omega,Aq,aKq,by omega⟩
      ·cbv;exact⟨rfl,True.intro⟩
      ·cbv
      ·cbv
structure eXz(E:List (Int×Int))(s v:Int)(t:Bool):Prop where
 out:(t=false/\v=0/\s∉over E s)\/(t=true/\s∈over E s/\s<=v/\(v=s\/(v∈over E s/\s∈over E v))/\∀k∈over E s,s∈over E k->k<=v)
theorem eXz.lXt{E:List (Int×Int)}{s v v':Int}{t t':Bool}(a:eXz E s v t)(b:eXz E s v' t'):v=v'/\t=t':=by
 rcases a.out with ⟨a1,a2,a3⟩ | ⟨a1,a2,a3,a4,a5⟩
 ·rcases b.out with ⟨b1,b2,b3⟩ | ⟨b1,b2,b3,b4,b5⟩
  ·exact⟨by rw[a2,b2],by rw[a1,b1]⟩
  ·exact absurd b2 a3
 ·rcases b.out with ⟨b1,b2,b3⟩ | ⟨b1,b2,b3,b4,b5⟩
  ·exact absurd a2 b3
  ·refine⟨?_,by rw[a1,b1]⟩;have h1:v<=v':=by
    rcases a4 with rfl| ⟨h1,h2⟩
    ·exact b3
    ·exact b5 v h1 h2
   have h2:v'<=v:=by
    rcases b4 with rfl| ⟨h1,h2⟩
    ·exact a3
    ·exact a5 v' h1 h2
   omega
def jz(E:List (Int×Int))(s:Int)(l:List Int)(m:Int):Int:=l.foldl (fun m k=>if decide (k>m)&&decide (s∈over E k)then k else m) m
def dG(E:List (Int×Int))(s:Int):Int×Bool:=if decide (s∈over E s)=true then(jz E s (over E s) s,true)else(0,false)
theorem wZ(E:List (Int×Int))(s:Int):∀(l:List Int) (m:Int),m<=jz E s l m/\(jz E s l m=m\/(jz E s l m∈l/\s∈over E (jz E s l m)))/\∀k∈l,s∈over E k->k<=jz E s l m
 | [],m=>⟨mXp _,.inl rfl,fun k hk=>by cases hk⟩
 |x::r,m=>by
  have e:jz E s (x::r) m=jz E s r (if decide (x>m)&&decide (s∈over E x)then x else m):=rfl;rw[e];by_cases hc:(decide (x>m)&&decide (s∈over E x))=true
  ·rw[if_pos hc];simp at hc;obtain⟨h1,h2,h3⟩:=wZ E s r x;refine⟨by omega,?_,fun k hk hs=>?_⟩
   ·rcases h2 with h2| ⟨h2,cXm⟩
    ·right;rw[h2];exact⟨by simp,hc.2⟩
    ·right;exact⟨by simp[h2],cXm⟩
   ·rcases mQs.1 hk with rfl|hk
    ·exact h1
    ·exact h3 k hk hs
  ·rw[if_neg hc];simp at hc;obtain⟨h1,h2,h3⟩:=wZ E s r m;refine⟨h1,?_,fun k hk hs=>?_⟩
   ·rcases h2 with h2| ⟨h2,cXm⟩
    ·exact .inl h2
    ·right;exact⟨by simp[h2],cXm⟩
   ·rcases mQs.1 hk with rfl|hk
    ·rcases Int.lt_or_le m k with aP|hle
     ·exact absurd hs (hc aP)
     ·omega
    ·exact h3 k hk hs
theorem rA(E:List (Int×Int))(s:Int):eXz E s (dG E s).1 (dG E s).2:=by
 constructor;unfold dG;by_cases h:s∈over E s
 ·rw[if_pos (by simpa using h)];obtain⟨h1,h2,h3⟩:=wZ E s (over E s) s;exact .inr ⟨rfl,h,h1,h2,h3⟩
 ·rw[if_neg (by simpa using h)];exact .inl ⟨rfl,rfl,h⟩
theorem eXz.eq{E:List (Int×Int)}{s v:Int}{t:Bool}(a:eXz E s v t):v=(dG E s).1/\t=(dG E s).2:=a.lXt (rA E s)
theorem Rg.gen{h0 h h':ad}{m:Nat}{E:List (Int×Int)}(q:Rg h0 h m E){bs:List Nat}(k:Kp bs h h')(hm:m∉bs)(t:bR [3] h h'):Rg h0 h' m E:=by obtain⟨G,g1,g2,g3,g4⟩:=q.out;exact⟨G,g1.kp k hm,g2,fun g hg=>⟨(g3 g hg).1,(g3 g hg).2.mono t⟩,g4⟩
theorem Rg.map{h0 h:ad}{m:Nat}{E:List (Int×Int)}(q:Rg h0 h m E):∃l,Mp h m (.int .i64) l:=by obtain⟨G,g1,-⟩:=q.out;exact⟨_,g1⟩
theorem JO{H W:List cg}{h:ad}{b1 b2:Option Addr}{n1 c1 n2 c2:Nat}(q1:Sl 205 bG h (.slice b1 n1 c1) H)(q2:Sl 205 bG h (.slice b2 n2 c2) W)(lG:n1<=2^18)(mY:n2<=2^18)(s:Int):
 Ct 282 [.agg #[.slice b1 n1 c1,.slice b2 n2 c2],.int .i64 s] h (fun v h'=>Le h h'/\∃z t,v=.tuple #[.int .i64 z,.bool t]/\eXz (da H W) s z t):=by
 obtain⟨A,hA⟩:=Ar.ex;have hE:(da H W).length<=2^37:=by have:=Ew H W;have:=DP (show W.length<=2^18 by rw[<-q2.len];exact mY) (show H.length<=2^18 by rw[<-q1.len];exact lG);omega
 generalize bZR:da H W=E at *;refine ah A (ax fKR.aK fKR.bF) Tryz.func282 rfl (by kernel_rfl) ?_;cbv;refine(aZj q1 q2 lG mY).mono (fun v h1 hR=>?_);obtain⟨l1,rb,mr,rfl,KJ,kKa,gr,rg⟩:=hR;rw[bZR]at rg;cbv;refine(Vw gr rg hE s).mono (fun v h2 hR=>?_);obtain⟨k2,m,x2,rfl,hm,fZQ,SK⟩:=hR;have l2:Le h h2:=l1.dJ (by simpa using KJ) k2;have kXO:Rg h h2 mr E:=by obtain⟨l,ml⟩:=rg.map;exact rg.gen k2 (by simpa using Nq gr ml) (Kp.fQr k2 gr (by decide))
 cbv;refine Mq SK s (fun t ht=>?_);cases t with
 |false=>
  have gK:A .not false=true:=by rw[hA.not];rfl
  have hs:s∉over E s:=mQI ht.symm;cbv;rw[gK];cbv;exact⟨l2,0,false,rfl,⟨.inl ⟨rfl,rfl,hs⟩⟩⟩
 |true=>
  have gK:A .not true=false:=by rw[hA.not];rfl
  have hs:s∈over E s:=mQB ht.symm;cbv;rw[gK];cbv;refine XT bJs SK (fun it h3 kKq l3 kZZ=>?_);have eQa:=l3 _ _ fZQ;have dZL:=SK.kp (l3.kp []) (by simp);have eKf:=kXO.gen (l3.kp []) (by simp) (l3.t _);have rL:=l2.trans l3;cbv;refine aX.go (G:=Int) (fun z=>[(8,.v (.int .i64 z))]) (fun _=>[(2,[.slice b1 n1 c1,.slice b2 n2 c2])])
   (fun k z h'=>∃left last x',Le h h'/\It h' it m left last/\k=left.length/\h' rb=some (.cells #[.map (some mr),.int .i64 x'] 407 (0,0))/\Rg h h' mr E/\
    s<=z/\(z=s\/(z∈over E s/\s∈over E z))/\(∀p∈left,p∈DT (over E s))/\∀k∈over E s,s∈over E k->k<=z\/(Value.int .i64 k,Value.bool true)∈left) _ s ⟨?_,?_,?_⟩
    ⟨_,_,x2,rL,kZZ,rfl,eQa,eKf,mXp _,.inl rfl,fun p hp=>hp,fun k hk _=>.inr (OI.2 hk)⟩ ?_
  ·cbv
  ·cbv
  ·cbv
  ·intro k z h' hI;cbv;obtain⟨left,last,x',hle,cQI,hk,Wy,iKU,jV,dL,ui,cJU⟩:=hI;have kKr:it≠rb:=fun e=>by
    obtain⟨_,_,_,_,_,_,g,_⟩:=cQI.out;rw[e,Wy]at g;cases g
   have MQ:m≠rb:=fun e=>by
    obtain⟨_,_,_,_,_,g,_⟩:=cQI.out;rw[e,Wy]at g;cases g
   have iXm:mr≠it:=fun e=>by
    obtain⟨_,_,_,_,_,_,g,_⟩:=cQI.out;obtain⟨l,ml⟩:=iKU.map;obtain⟨_,_,g',_⟩:=ml.out;rw[e,g]at g';cases g'
   refine aXW cQI (fun hl=>?_) (fun key val tA h4 fZ cKn eM aP dKt k4 t4=>?_)
   ·cbv;refine⟨hle,z,true,rfl,⟨.inr ⟨rfl,hs,jV,dL,fun k hk eZt=>?_⟩⟩⟩;rcases cJU k hk eZt with h1|h1
    ·exact h1
    ·rw[hl]at h1;cases h1
   ·have RO:=t4 [407] _ _ _ _ (by decide) Wy;have fV:=ui _ fZ;obtain⟨w,hw,he⟩:=mQO.1 fV;cases he;have l4:Le h h4:=hle.dJ (by simpa using l2.none kKq) k4;have cJr:=iKU.gen k4 (by simpa using iXm) (t4 _);have stay:∀(h5:ad) (x5:Int),Le h h5->It h5 it m tA (some (.int .i64 w,.bool true))->h5 rb=some (.cells #[.map (some mr),.int .i64 x5] 407 (0,0))->Rg h h5 mr E->((s∈over E w)->w<=z)->
     ∃left last x',Le h h5/\It h5 it m left last/\tA.length=left.length/\h5 rb=some (.cells #[.map (some mr),.int .i64 x'] 407 (0,0))/\Rg h h5 mr E/\
      s<=z/\(z=s\/(z∈over E s/\s∈over E z))/\(∀p∈left,p∈DT (over E s))/\∀k∈over E s,s∈over E k->k<=z\/(Value.int .i64 k,Value.bool true)∈left:=
     fun h5 x5 a1 a2 a3 a4 a5=>⟨tA,_,x5,a1,a2,rfl,a3,a4,jV,dL,fun p hp=>ui p (eM p hp),fun k hk eZt=>by
      rcases cJU k hk eZt with h1|h1
      ·exact .inl h1
      ·rcases cKn _ h1 with h2|h2
       ·have:k=w:=by cases h2;rfl
        subst this;exact .inl (a5 eZt)
       ·exact .inr h2⟩
    have more:∀(h5:ad) (x5:Int),Le h h5->It h5 it m tA (some (.int .i64 w,.bool true))->h5 rb=some (.cells #[.map (some mr),.int .i64 x5] 407 (0,0))->Rg h h5 mr E->s∈over E w->z<w->
     ∃left last x',Le h h5/\It h5 it m left last/\tA.length=left.length/\h5 rb=some (.cells #[.map (some mr),.int .i64 x'] 407 (0,0))/\Rg h h5 mr E/\
      s<=w/\(w=s\/(w∈over E s/\s∈over E w))/\(∀p∈left,p∈DT (over E s))/\∀k∈over E s,s∈over E k->k<=w\/(Value.int .i64 k,Value.bool true)∈left:=
     fun h5 x5 a1 a2 a3 a4 a5 a6=>⟨tA,_,x5,a1,a2,rfl,a3,a4,by omega,.inr ⟨hw,a5⟩,fun p hp=>ui p (eM p hp),fun k hk eZt=>by
      rcases cJU k hk eZt with h1|h1
      ·left;omega
      ·rcases cKn _ h1 with h2|h2
       ·have:k=w:=by cases h2;rfl
        subst this;exact .inl (mXp _)
       ·exact .inr h2⟩
    generalize eg:A .aI .gtr w z=u;have fg:=eg;rw[bO A]at eg;cbv;refine XX dKt ?_;cbv;rw[fg];cases u with
    |false=>
     have eE:=stay h4 x' l4 dKt RO cJr (fun _=>by have:=mQI eg;omega);cbv;refine⟨tA.length,_,by omega,⟨?_,?_,?_⟩,eE⟩
     ·cbv
     ·cbv
     ·cbv
    |true=>
     have wA:z<w:=mQB eg;cbv;refine(Vw RO cJr hE w).mono (fun v h5 hR=>?_);obtain⟨k5,m5,x5,rfl,jXE,aQx,eZg⟩:=hR;have l5:Le h h5:=l4.dJ (by simpa using KJ) k5;have gJa:Rg h h5 mr E:=by obtain⟨l,ml⟩:=cJr.map;exact cJr.gen k5 (by simpa using Nq RO ml) (Kp.fQr k5 RO (by decide))
     have jXa:=dKt.kp k5 (by simpa using kKr) (by simpa using MQ);cbv;refine Mq eZg s (fun t ht=>?_);cases t with
     |true=>
      have eE:=more h5 x5 l5 jXa aQx gJa (mQB ht.symm) wA;cbv;refine⟨tA.length,_,by omega,⟨?_,?_,?_⟩,eE⟩
      ·cbv
      ·cbv
      ·cbv
     |false=>
      have gJU:s∉over E w:=mQI ht.symm;have eE:=stay h5 x5 l5 jXa aQx gJa (fun aKk=>absurd aKk gJU);cbv;refine⟨tA.length,_,by omega,⟨?_,?_,?_⟩,eE⟩
      ·cbv
      ·cbv
      ·cbv
theorem lA.HF{h h':ad}{c tb wb ct cw:Nat}{T:List cW}{W:List (fJ×Bool)}{H' Fl:List cg}{e:Int}{n1 n2:Nat}{b3 b4 b5 b6:Option Addr}{n3 c3 n4 c4 n5 c5 n6 c6:Nat}{o:Int}
 (g0:h c=some (.cells #[.slice (some ⟨tb,0,none⟩) n1 ct,.slice (some ⟨wb,0,none⟩) n2 cw,.slice b3 n3 c3,.slice b4 n4 c4,.int .u32 o,.int .i32 0,.int .u32 0,.int .i64 e] 128 (0,0)))
 (ho:(o=0/\e=0)\/(o=1/\e≠0)) (g1:n1=T.length) (g2:fX 51 ef h tb ct T) (g3:n2=W.length) (g4:fX 55 cX h wb cw W) (q5:Sl 205 bG h (.slice b5 n5 c5) H') (q6:Sl 205 bG h (.slice b6 n6 c6) Fl)
 (hh:h'=bU h c (.cells #[.slice (some ⟨tb,0,none⟩) n1 ct,.slice (some ⟨wb,0,none⟩) n2 cw,.slice b5 n5 c5,.slice b6 n6 c6,.int .u32 o,.int .i32 0,.int .u32 0,.int .i64 e] 128 (0,0))):
 Kp [c] h h'/\lA h' c tb wb ct cw T W H' Fl e:=by
 have lt:∀tys,128∉tys->bR tys h h':=fun tys hn=>by rw[hh];exact bR.set g0 hn
 refine⟨by rw[hh];exact Kp.set (by simp),n1,n2,b5,n5,c5,b6,n6,c6,o,by rw[hh];exact ae,ho,g1,g2.mono (lt _ (by decide)),g3,g4.mono (lt _ (by decide)),q5.mono (lt _ (by decide)),q6.mono (lt _ (by decide))⟩
theorem lA.elim{h:ad}{c tb wb ct cw:Nat}{T:List cW}{W:List (fJ×Bool)}{H Wt:List cg}{e:Int}(q:lA h c tb wb ct cw T W H Wt e){p:Prop}
 (k:∀(n1 n2:Nat) (b3:Option Addr) (n3 c3:Nat) (b4:Option Addr) (n4 c4:Nat) (o:Int),h c=some (.cells #[.slice (some ⟨tb,0,none⟩) n1 ct,.slice (some ⟨wb,0,none⟩) n2 cw,.slice b3 n3 c3,.slice b4 n4 c4,.int .u32 o,.int .i32 0,.int .u32 0,.int .i64 e] 128 (0,0))->
  ((o=0/\e=0)\/(o=1/\e≠0))->n1=T.length->fX 51 ef h tb ct T->n2=W.length->fX 55 cX h wb cw W->Sl 205 bG h (.slice b3 n3 c3) H->Sl 205 bG h (.slice b4 n4 c4) Wt->
  ik h (.agg #[.slice (some ⟨tb,0,none⟩) n1 ct,.slice (some ⟨wb,0,none⟩) n2 cw,.slice b3 n3 c3,.slice b4 n4 c4]) ⟨T,W.map (·.1),H,Wt⟩->p):p:=by
 obtain⟨n1,n2,b3,n3,c3,b4,n4,c4,o,g0,g1,g2,g3,g4,g5,g6,g7⟩:=q.out;exact k n1 n2 b3 n3 c3 b4 n4 c4 o g0 g1 g2 g3 g4 g5 g6 g7 ⟨_,_,_,_,_,_,_,_,_,_,_,_,W,rfl,g3.sl g2,g5.sl g4,g6,g7,rfl⟩
theorem fi{d:DB}{h:ad}{v:Value}(q:ik h v d){k:Value->ad->Prop}
 (hk:∀h' b1 n1 c1 b2 n2 c2 b3 n3 c3 b4 n4 c4,Le h h'->ik h' (.agg #[.slice b1 n1 c1,.slice b2 n2 c2,.slice b3 n3 c3,.slice b4 n4 c4]) d->k (.agg #[.slice b1 n1 c1,.slice b2 n2 c2,.slice b3 n3 c3,.slice b4 n4 c4]) h'):Ct 50 [v] h k:=
 (tL q).mono (fun v h' hR=>by
  obtain⟨l,hd⟩:=hR;obtain⟨b1,n1,c1,b2,n2,c2,b3,n3,c3,b4,n4,c4,hv⟩:=hd.form;rw[hv]at hd |-;exact hk h' _ _ _ _ _ _ _ _ _ _ _ _ l hd)
theorem pS{d:DB}{h:ad}{v:Value}(q:ik h v d){k:Value->ad->Prop}
 (hk:∀h' c tb wb ct cw W,Le h h'->h c=none->h tb=none->h wb=none->c≠tb->c≠wb->W=(d.aq.map fun w=>(w,true))->ct=d.az.length->cw=W.length->lA h' c tb wb ct cw d.az W d.holds d.waits 0->k (.pointer (some ⟨c,0,none⟩)) h'):Ct 48 [v] h k:=
 (Nv q).mono (fun v h' hR=>by
  obtain⟨l1,c,tb,wb,ct,cw,W,hv,hc,wB,Ai,wF,tZ,hW,aQA,Uw,cs⟩:=hR;rw[hv];exact hk h' c tb wb ct cw W l1 hc wB Ai wF tZ hW aQA Uw cs)
theorem aXu{h:ad}{cs:List Value}{t:cW}(q:ef.R h cs t){p:List Value->Prop}(k:∀(b1:Option Addr) (n1 c1:Nat) (b2:Option Addr) (n2 c2:Nat),Sl 165 bI h (.slice b1 n1 c1) t.S.cols->Sl 59 aD h (.slice b2 n2 c2) t.rows->p [.string t.S.name,.slice b1 n1 c1,.int .i64 t.S.key,.bool t.S.only,.slice b2 n2 c2]):p cs:=by obtain⟨b1,n1,c1,b2,n2,c2,rfl,q1,q2⟩:=q;exact k b1 n1 c1 b2 n2 c2 q1 q2
theorem xU{A:Ar}[bM A]{h:ad}{b:Option Addr}{len cap:Nat}{xs:List cW}(q:Sl 51 ef h (.slice b len cap) xs){i:Nat}{t:cW}(hx:xs[i]? =some t){n:Int}(hn:n=(i:Int)){k:List Value->Prop}
 (hk:∀(b1:Option Addr) (n1 c1:Nat) (b2:Option Addr) (n2 c2:Nat),Sl 165 bI h (.slice b1 n1 c1) t.S.cols->Sl 59 aD h (.slice b2 n2 c2) t.rows->k [.string t.S.name,.slice b1 n1 c1,.int .i64 t.S.key,.bool t.S.only,.slice b2 n2 c2]):Bn h (A.mS b n ef.n) ef.n k:=
 q.load hx hn (fun cs ay=>aXu ay hk)
theorem qj{A:Ar}[bM A]{h:ad}{b:Option Addr}{len cap:Nat}{xs:List (fJ×Bool)}(q:Sl 55 cX h (.slice b len cap) xs){i:Nat}{w:fJ×Bool}(hx:xs[i]? =some w){n:Int}(hn:n=(i:Int)){k:List Value->Prop}
 (hk:∀(b1:Option Addr) (n1 c1:Nat),Sl 148 dI h (.slice b1 n1 c1) w.1.log->(w.2=true->c1=n1)->(∀h' k',Le h h'->k' [.slice b1 n1 c1]->Bn h' (A .off (A .mS b n 3) 1) 1 k')->k [.slice b1 n1 c1]):Bn h (A .off (A .mS b n 3) 1) 1 k:=
 q.vD (s:=cX) hx hn (o:=1) (m:=1) (by decide) (fun cs ay ag=>by
  obtain⟨b1,n1,c1,b2,n2,c2,rfl,q1,q2,q3⟩:=ay;exact hk b1 n1 c1 q1 q3 ag)
theorem HJ{A:Ar}[bM A]{h:ad}{b:Option Addr}{len cap:Nat}{xs:List (fJ×Bool)}(q:Sl 55 cX h (.slice b len cap) xs){i:Nat}{w:fJ×Bool}(hx:xs[i]? =some w){n:Int}(hn:n=(i:Int)){k:List Value->Prop}
 (hk:∀(b1:Option Addr) (n1 c1:Nat),Sl 161 dN h (.slice b1 n1 c1) w.1.marks->(∀h' k',Le h h'->k' [.slice b1 n1 c1]->Bn h' (A .off (A .mS b n 3) 2) 1 k')->k [.slice b1 n1 c1]):Bn h (A .off (A .mS b n 3) 2) 1 k:=
 q.vD (s:=cX) hx hn (o:=2) (m:=1) (by decide) (fun cs ay ag=>by
  obtain⟨b1,n1,c1,b2,n2,c2,rfl,q1,q2,q3⟩:=ay;exact hk b2 n2 c2 q2 ag)
theorem Wi{h:ad}{c tb wb ct cw:Nat}{T:List cW}{W:List (fJ×Bool)}{H Wt:List cg}{e:Int}(q:lA h c tb wb ct cw T W H Wt e){p4 p5 p6 p7:Nat}{hd:cg}
 (g4:h p4=some (.cells #[.pointer (some ⟨c,0,none⟩)] 109 (0,0))) (g5:h p5=some (.cells #[.int .i64 hd.s] 3 (0,0))) (g6:h p6=some (.cells #[.string hd.table] 9 (0,0))) (g7:h p7=some (.cells #[.bool hd.x] 4 (0,0)))
 (hH:H.length<=2^18) (cKI:Wt.length<=2^18):
 Ct 280 [.pointer (some ⟨p4,0,none⟩),.pointer (some ⟨p5,0,none⟩),.pointer (some ⟨p6,0,none⟩),.pointer (some ⟨p7,0,none⟩)] h
  (fun v h'=>Kp [c] h h'/\∃t,v=.bool t/\t=bP H hd/\lA h' c tb wb ct cw T W (cV H hd) (df H Wt hd) e):=by
 obtain⟨A,hA⟩:=Ar.ex;obtain⟨n1,n2,b3,n3,c3,b4,n4,c4,o,f0,f1,f2,f3,f4,f5,f6,f7⟩:=q.out;obtain⟨hs,ht,hx⟩:=hd;refine ah A (ax fKT.aK fKT.bF) Tryz.func280 rfl (by kernel_rfl) ?_;cbv;refine aB g4 rfl rfl ?_;cbv;refine aB g4 rfl rfl ?_;cbv;rw[ai A];rw[ai A];refine aB f0 rfl rfl ?_;cbv;refine aB g5 rfl rfl ?_;cbv;refine aB g6 rfl rfl ?_;cbv;refine aB g7 rfl rfl ?_;cbv;refine(eXs f6 f7 (by have:=f6.len;omega) (by have:=f7.len;omega) ⟨hs,ht,hx⟩).mono (fun v h1 hR=>?_);obtain⟨l1,b5,n5,c5,b6,n6,c6,t,rfl,r5,r6,et⟩:=hR;cbv;refine aB (l1 _ _ g4) rfl rfl ?_;cbv;refine⟨⟨_,rfl,rfl⟩,?_⟩;cbv;rw[ai A];rw[ai A];refine ja (l1 _ _ f0) (by simp) (fun h2 e2=>?_);have af:=lA.HF (l1 _ _ f0) f1 f2 (f3.mono (l1.t _)) f4 (f5.mono (l1.t _)) r5 r6 e2;cbv;exact⟨(l1.kp _).trans af.1,t,rfl,et,af.2⟩
def dQ(W:List (fJ×Bool))(s:Int):List Int:=W.map fun x=>IntKind.i64.wrap (x.1.s-s)
def aQ(T:List cW)(name:ByteArray):List Int:=T.map fun x=>eC x.S.name name
theorem Dq{H:List cg}{hd:cg}:(cV H hd).length<=H.length+1:=by
 unfold cV;split
 ·split
  ·omega
  ·split
   ·rw[mXo];omega
   ·simp
 ·omega
theorem gZ(l:List cg)(s:Int):(bX l s).length<=l.length:=mXH _ _
def jb:ByteArray:=⟨#[]⟩
def dK(r:Row)(t:cW):cW×dV×Int:=((bK t r).1,⟨jb,1,r⟩,(bK t r).2)
def dR(k:cO)(t:cW):cW×dV×Int:=if t.S.only=true then(t,⟨jb,0,[]⟩,19)else((bH t k).1,⟨jb,2,(bH t k).2.1⟩,(bH t k).2.2)
theorem eKw{nm:ByteArray}{cols:List cK}{key:Int}{only:Bool}{rows:List Row}{r:Row}{h:ad}{sb b4 b:Option Addr}{sn sc n4 c4 n c rb:Nat}(qs:Sl 165 bI h (.slice sb sn sc) cols)(q4:Sl 59 aD h (.slice b4 n4 c4) rows)
 (gr:h rb=some (.cells #[.slice b n c] 59 (0,0))) (q:Sl 61 bq h (.slice b n c) r) (hn:n4<=2^37):
 Ct 164 [.agg #[.string nm,.slice sb sn sc,.int .i64 key,.bool only,.slice b4 n4 c4],.pointer (some ⟨rb,0,none⟩)] h (fun v h'=>Le h h'/\∃b1 n1 k1 b2 n2 k2 b3 n3 k3 e T C,v=.tuple #[.agg #[.string nm,.slice b1 n1 k1,.int .i64 key,.bool only,.slice b2 n2 k2],.agg #[.string jb,.int .i64 C.op,.slice b3 n3 k3],.int .i64 e]/\
  Sl 165 bI h' (.slice b1 n1 k1) cols/\Sl 59 aD h' (.slice b2 n2 k2) T/\Sl 61 bq h' (.slice b3 n3 k3) C.row/\(⟨⟨⟨nm,cols,key,only⟩,T⟩,C,e⟩:cW×dV×Int)=dK r ⟨⟨nm,cols,key,only⟩,rows⟩):=by
 obtain⟨A,hA⟩:=Ar.ex;refine ah A (ax gXv.aK gXv.bF) Tryz.func164 rfl (by kernel_rfl) ?_;cbv;refine aB gr rfl rfl ?_;cbv;refine(cJx (nm:=nm) (key:=key) (only:=only) qs q4 q hn).mono (fun v h1 hR=>?_);obtain⟨l1,b1,n1,k1,b2,n2,k2,e,T,rfl,r1,r2,r3⟩:=hR;cbv;refine aB (l1 _ _ gr) rfl rfl ?_;cbv;refine(aZF (q.mono (l1.t _))).mono (fun v h2 hR=>?_);obtain⟨l2,b3,k3,rfl,r4⟩:=hR;cbv;exact⟨l1.trans l2,_,_,_,_,_,_,_,_,_,e,T,⟨jb,1,r⟩,rfl,r1.mono (l2.t _),r2.mono (l2.t _),r4,by unfold dK;rw[<-r3]⟩
theorem aZr{nm:ByteArray}{cols:List cK}{key:Int}{only:Bool}{rows:List Row}{r:Row}{h:ad}{sb b4 b:Option Addr}{sn sc n4 c4 n c rb:Nat}(qs:Sl 165 bI h (.slice sb sn sc) cols)(q4:Sl 59 aD h (.slice b4 n4 c4) rows)
 (gr:h rb=some (.cells #[.slice b n c] 59 (0,0))) (q:Sl 61 bq h (.slice b n c) r) (hn:n4<=2^37) {k:Value->ad->Prop}
 (hk:∀h' b1 n1 k1 b2 n2 k2 b3 n3 k3 e T C,Le h h'->Sl 165 bI h' (.slice b1 n1 k1) cols->Sl 59 aD h' (.slice b2 n2 k2) T->Sl 61 bq h' (.slice b3 n3 k3) C.row->(⟨⟨⟨nm,cols,key,only⟩,T⟩,C,e⟩:cW×dV×Int)=dK r ⟨⟨nm,cols,key,only⟩,rows⟩->
  k (.tuple #[.agg #[.string nm,.slice b1 n1 k1,.int .i64 key,.bool only,.slice b2 n2 k2],.agg #[.string jb,.int .i64 C.op,.slice b3 n3 k3],.int .i64 e]) h'):
 Ct 164 [.agg #[.string nm,.slice sb sn sc,.int .i64 key,.bool only,.slice b4 n4 c4],.pointer (some ⟨rb,0,none⟩)] h k:=
 (eKw (nm:=nm) (key:=key) (only:=only) qs q4 gr q hn).mono (fun v h' hR=>by
  obtain⟨l,b1,n1,k1,b2,n2,k2,b3,n3,k3,e,T,C,hv,r1,r2,r3,r4⟩:=hR;rw[hv];exact hk h' b1 n1 k1 b2 n2 k2 b3 n3 k3 e T C l r1 r2 r3 r4)
end Go.S
