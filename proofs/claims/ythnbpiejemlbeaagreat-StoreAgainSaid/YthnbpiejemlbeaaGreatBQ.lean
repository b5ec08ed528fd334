import Derived.Test.YthnbpiejemlbeaaGreatBP
set_option linter.all false
set_option maxRecDepth 100000
set_option maxHeartbeats 8000000
namespace Go.S
open Go.Sx Go.Proofs
variable {d:DB}{z:Int}{G g:Lg}{r:List Bs}{cs:List cR}{P c i p s:Nat}{tt:Nat->List bS}{b:Option Addr}{k:Value->ad->Prop}{a h h':ad}{L L':eO}
theorem bJP(b:Bool)(a:k (.zI (if b then 1 else 0)) h):Ct 268 [.bool b] h k:=by
 refine cB eZv Tryz.func268 λA c=>?_;cases b with
 |true=>cbv;exact a
 |false=>cbv;exact a
theorem YB(bs:List Nat)(h:ad):∃L:ad,Le L h/\(∀b∈bs,L b=none)/\(∀h',Kp bs h h'->Le L h')/\(∀h',Le L h'->Kp bs h h')/\∀b,b∉bs->L b=h b:=by
 classical
 obtain⟨L,H⟩:∃L:ad,∀b,L b=if b∈bs then none else h b:=⟨λb=>if b∈bs then none else h b,λ_=>rfl⟩
 refine⟨L,λb o a=>?_,λb a=>by rw[H,if_pos a],λh' k b o a=>?_,λh' l b o a n=>l b o gg,λb a=>by rw[H,if_neg a]⟩
 .grind
 rw[H]at a;by_cases m:b∈bs
 .grind
 rw[if_neg m]at a;exact k b o a m
structure DP(T:List bS)(c:cR)(T':List bS):Prop where
 out:∃i t t',T[i]? =some t/\t.S.name=c.table/\(∀j,j<i->∀y,T[j]? =some y->decide (y.S.name=c.table)=false)/\QZ t c t'/\T'=T.set i t'
structure RunT(cs:List cR)(tt:Nat->List bS):Prop where
 step:∀i c,cs[i]? =some c->DP (tt i) c (tt (i+1))
 ja:∀c∈cs,TD c
 dQK:∀c∈cs,yT c
 n:0<cs.length/\cs.length<=255
theorem DP.len{T a:List bS}{c:cR}(q:DP T c a):a.length=T.length:=by
 obtain⟨i,t,t',-,-,-,-,rfl⟩:=q.out
 grind
theorem RunT.len(q:RunT cs tt):∀i,i<=cs.length->(tt i).length=(tt 0).length:=λi=>by
 induction i with
 |zero=>intro _;rfl
 |succ i a=>intro b;obtain⟨c,h⟩:=cK cs i;rw[(q.step i c h).len,a ip]
theorem Vs{M:List Bs}{x:Bs}(h:M[i]? =some x):(M.drop i).flatten=x++(M.drop (i+1)).flatten:=by have a:=(HH.1 h).1;rw[kQP a,(HH.1 h).2,kQG]
set_option maxHeartbeats 16000000
abbrev Cl:List Nat:=[61,202,46,45]
abbrev JF:List Nat:=150::299::(Cl++kZ)
theorem jJq{x r d:Nat}{b2 b3 b4 e1 e2 e3:Option Addr}{n1 L n2 c2 n3 c3 n4 c4 m1 d1 m2 V m3 d3:Nat}{j:Int}{op:List mQ}{bs:List nV}{ts:List (List mQ)}
 (gx:h x=zcL 150 [.slice (zsA d) n1 L,.slice b2 n2 c2,.slice b3 n3 c3,.slice b4 n4 c4,.zI j,.slice e1 m1 d1,.slice e2 m2 V,.slice e3 m3 d3])
 (ot:dt 61 bT h d L (tt 0)) (fG:n1=(tt 0).length) (ql:vr h e1 m1 d1 e2 m2 V e3 m3 d3 ⟨j,op,bs,ts⟩) (hB:xK ⟨j,op,bs,ts⟩) (R:RunT cs tt) (qr:pV h r p false) {a:Bs}  (hL:eZ ⟨j,op,bs,ts⟩ cs=L')
 (qp:gR h p (some (cP j++([u8 (cs.length:Int)]++((cs.mapIdx (dC j)).flatten++(fa j cs++(kU L'++a))))))) 
 (hk:∀h' e1 m1 d1 e2 m2 V e3 m3 d3,Kp [x,r,p,d] h h'->h' x=zcL 150 [.slice (zsA d) n1 L,.slice b2 n2 c2,.slice b3 n3 c3,.slice b4 n4 c4,.zI L'.next,.slice e1 m1 d1,.slice e2 m2 V,.slice e3 m3 d3]->
  dt 61 bT h' d L (tt cs.length)->vr h' e1 m1 d1 e2 m2 V e3 m3 d3 L'->pV h' r p false->gR h' p (some a)->k (.tuple #[]) h'):
 Ct 145 [.zP x,.zP r] h k:=by
 obtain⟨A,hA⟩:=Ar.ex;obtain⟨dr,gr,-⟩:=qr.out;obtain⟨bo,du⟩:0<=j/\j<2^40:=hB.nx;obtain⟨Kx,di⟩:=R.n;obtain⟨nn,sQ⟩:∃nn:Nat,j=(nn:Int):=⟨j.toNat,(Int.toNat_of_nonneg bo).symm⟩;have nI:=Mu (n:=nn) ip ([u8 (cs.length:Int)]++((cs.mapIdx (dC j)).flatten++(fa j cs++(kU L'++a))));rw[<-sQ]at nI;have aE:=fF (u8 (cs.length:Int)) ((cs.mapIdx (dC j)).flatten++(fa j cs++(kU L'++a)));have Gi:IntKind.i64.wrap (nn:Int)=j:=by rw[sQ];exact IntWalk.i64_in _ ip
 obtain⟨kn,Ko⟩:∃kn:Int,kn=(cs.length:Int):=⟨_,rfl⟩;have bY:((u8 (cs.length:Int)).toNat:Int)=kn:=by rw[Ci,Ko];omega
 have cL:A .aQ .eql j j=true:=by rw[au A];grind
 have aK:A .aQ .gtr kn 0=true:=by rw[bF A,Ko];grind
 refine kh eKy A Tryz.func145 ?_;cbv;repeat (first|rw[av A] | (refine cy gr ?_;cbv)|(refine cy gx ?_;cbv)|(refine zqr ?_;cbv))
 refine bXG qp (λh1 f pD k1 RL=>?_);rw[nI]at pD RL;have pD:f=j:=gg
 subst pD;have RL:gR h1 p (some (u8 (cs.length:Int)::((cs.mapIdx (dC f)).flatten++(fa f cs++(kU L'++a))))):=RL;have t1:=qp.lt k1 (tys:=JF) dl;have Nq:=t1 _ _ _ _ dl gx;have FL:=qr.lt (t1.sub);have bd:=ot.mono (t1.sub);obtain⟨dj,aF,-⟩:=FL.out;clear nI sQ Gi;cbv;repeat (first|rw[av A] | (refine cy aF ?_;cbv)|(refine cy Nq ?_;cbv)|(refine zqr ?_;cbv))
 rw[cL];refine pC FL true (λh2 k2 O=>?_);have t2:=FL.lk k2 (tys:=150::411::5::(Cl++kZ)) dl;have Np:=t2 _ _ _ _ dl Nq;have D:=RL.mt (t2.sub);have u:=bd.mono (t2.sub);obtain⟨ca,WC,-⟩:=O.out;cbv;repeat (first|rw[av A] | (refine cy WC ?_;cbv)|(refine cy Np ?_;cbv)|(refine zqr ?_;cbv))
 refine tY D (λh3 kz ar k3 U=>?_);rw[aE]at ar U;have ar:kz=kn:=gg
 subst ar;have U:gR h3 p (some ((cs.mapIdx (dC f)).flatten++(fa f cs++(kU L'++a)))):=U;have t3:=D.lt k3 (tys:=JF) dl;have Cc:=t3 _ _ _ _ dl Np;have Y:pV h3 r p false:=O.lt (t3.sub);have Z:=u.mono (t3.sub);clear aE bY;cbv;rw[aK];refine pC Y true (λh4 k4 E=>?_);have t4:=Y.lk k4 (tys:=150::411::5::(Cl++kZ)) dl;have uj:=t4 _ _ _ _ dl Cc;have S:=U.mt (t4.sub);have I:=Z.mono (t4.sub);have E:pV h4 r p false:=E;have K4:Kp [x,r,p,d] h h4:=(k1.up io).trans ((k2.up io).trans ((k3.up io).trans (k4.up io)));clear Nq Np Cc RL D U FL O Y bd u Z aF WC aK k1 k2 k3 k4 t1 t2 t3 t4;obtain⟨hP,dm,dk,an,bc,cr⟩:=YB [x,r,p,d] h;have tl:cX kZ h hP:=λb c e fr he hb=>by
  rw[cr b (λhm=>?_)]
  .exact hb
  simp only[kXB,kQK,or_false]at hm;rcases hm with rfl|rfl|rfl|rfl
  .grind
  .grind
  .obtain⟨rr,q1,-⟩:=qp.out;obtain⟨bb,n,c,V,g2,-⟩:=q1.out
   grind
  obtain⟨c,hc,-⟩:=ot.out
  grind
 have cn:=ql.ls tl;have IX:∀ {i:Nat} {c:cR},cs[i]? =some c->((cs.mapIdx (dC f)).drop i).flatten=dC f i c++((cs.mapIdx (dC f)).drop (i+1)).flatten:=λh=>Vs gg;have dc:(cs.mapIdx (dC f)).length=cs.length:=List.length_mapIdx;generalize cs.mapIdx (dC f)=M at *;obtain⟨tail,Zs⟩:∃tail,tail=fa f cs++(kU L'++a):=⟨_,rfl⟩;rw[<-Zs]at S;obtain⟨J,bH⟩:∃J:Nat->((Option Addr×Nat×Nat)×Int)->ad->Prop,∀w g h',J w g h'=(∃i,bg g.2 i/\w=cs.length-i/\i<=cs.length/\Kp [x,r,p,d] h h'/\
  h' x=zcL 150 [.slice (zsA d) n1 L,.slice b2 n2 c2,.slice b3 n3 c3,.slice b4 n4 c4,.zI f,.slice e1 m1 d1,.slice e2 m2 V,.slice e3 m3 d3]/\
  dt 61 bT h' d L (tt i)/\pV h' r p false/\gR h' p (some ((M.drop i).flatten++tail))/\bA 161 bD hP h' (.slice g.1.1 g.1.2.1 g.1.2.2) (cs.take i)):=⟨_,λ_ _ _=>rfl⟩
 have dP:J cs.length ((none,0,0),0) h4:=by rw[bH];exact⟨0,⟨rfl⟩,rfl,ip,K4,uj,I,E,gg,bA.nil⟩
 clear uj I E S K4 qp ot gx gr qr;cbv;refine ba.gz (G:=(Option Addr×Nat×Nat)×Int) (λg=>[(5,.v (.slice g.1.1 g.1.2.1 g.1.2.2)),(6,.v (.zI g.2))]) (λ_=>[]) (λw g h'=>J w g h') cs.length ((none,0,0),0) dP ?_
 intro w g h2 hI;rw[bH]at hI;cbv;obtain⟨⟨gb,gm,gc⟩,z⟩:=g;obtain⟨i,hz,hw,hi,K2,Np,u,O,D,v⟩:=hI;have hz:bg z i:=hz;have v:bA 161 bD hP h2 (.slice gb gm gc) (cs.take i):=v;have nQ:=v.sl.len;rw[kJI]at nQ;obtain⟨ca,WC,-⟩:=O.out;have fl:A .aQ .lss z kz=decide (i<cs.length):=by rw[aV A,hz.eq,Ko];grind
 have bj:A .not false=true:=by rw[hA.not];rfl
 rw[fl];by_cases hc:i<cs.length
 .rw[kS hc];cbv;repeat (first|rw[av A] | (refine cy WC ?_;cbv)|(refine zqr ?_;cbv))
  rw[bj];obtain⟨c,ak⟩:=ay (xs:=cs) (i:=i) hc;have Ql:=kQR ak;have hG:=R.ja c Ql;have HN:=R.dQK c Ql;obtain⟨ti,t,t',ht,nG,bR,Qi,aC⟩:=(R.step i c ak).out;have hf:=IX ak;rw[hf]at D;have Hu:(df f i c).length=32:=gu _;have aZ:cs.length-(i+1)<w:=ip
  have ZD:n1=(tt i).length:=by rw[fG,R.len i ip]
  have fV:=mI ak;have cm:∀h' b' m' c',Kp [x,r,p,d] h h'->h' x=zcL 150 [.slice (zsA d) n1 L,.slice b2 n2 c2,.slice b3 n3 c3,.slice b4 n4 c4,.zI f,.slice e1 m1 d1,.slice e2 m2 V,.slice e3 m3 d3]->
   dt 61 bT h' d L (tt (i+1))->pV h' r p false->gR h' p (some ((M.drop (i+1)).flatten++tail))->bA 161 bD hP h' (.slice b' m' c') (cs.take i++[c])->J (cs.length-(i+1)) ((b',m',c'),A .aX .add .i64 z 1) h':=λh' b' m' c' a1 a2 a3 a4 a5 a6=>by
   rw[bH];exact⟨i+1,hz.succ (A:=A),rfl,ip,a1,a2,a3,a4,a5,gg⟩
  have bx:gm+1<=2^39:=ip
  rw[aC]at cm;clear hf fV aC bH dP fl IX;have D:gR h2 p (some ((([u8 c.op]++dZ c.table)++dZ (strOf (gH c.row)))++(df f i c++((M.drop (i+1)).flatten++tail)))):=by
   have e:(dC f i c++(M.drop (i+1)).flatten)++tail=(([u8 c.op]++dZ c.table)++dZ (strOf (gH c.row)))++(df f i c++((M.drop (i+1)).flatten++tail)):=by
    grind [dC]
   grind
  generalize (M.drop (i+1)).flatten++tail=bk at *;cbv;refine bXS O D hG (λh3 vb vn vc k3 Y U H=>?_);have x3:=Yc O D k3;have Cc:=x3 _ _ Np (λc e fr he=>gg);have Z:=u.mono (x3.t dl);have aN:=v.mono (x3.t dl);have K3:Kp [x,r,p,d] h h3:=K2.trans (k3.up io);obtain⟨N,WG,F⟩:=c;have H:Sl 45 bG h3 (.slice vb vn vc) F:=H;clear Np u v O D WC x3 k3 K2;obtain⟨dB,WB,-⟩:=Y.out;cbv;repeat (first|rw[av A] | (refine cy Cc ?_;cbv)|(refine zqr ?_;cbv))
  refine aXO hz H HN (λh4 g4 y aq=>?_);have uj:=y _ _ Cc;have Hu:(df f i ⟨N,WG,F⟩).length=32:=Hu;have S:gR h4 p (some (df f i ⟨N,WG,F⟩++bk)):=U.le y;have E:=Y.le y;generalize df f i ⟨N,WG,F⟩=RH at *;cbv;repeat (first|rw[av A] | (refine cy uj ?_;cbv)|(refine zqr ?_;cbv))
  refine Ty E S aq Hu (λh5 k5 Al T=>?_);have x5:=Yc E S k5;have Jd:=x5 _ _ uj (λc e fr he=>gg);have q:=(Z.mono (y.t _)).mono (x5.t dl);have aM:=(aN.mono (y.t _)).mono (x5.t dl);have aw:=(H.mono (y.t _)).mono (x5.t dl);have K5:Kp [x,r,p,d] h h5:=K3.trans ((y.kp _).trans (k5.up io));clear Cc Z aN Y U WB uj E S x5 k5 K3 H;cbv;repeat (first|rw[av A] | (refine cy Jd ?_;cbv)|(refine zqr ?_;cbv))
  refine cKn q ZD aw ht nG bR Qi (λl x6 m W Q=>?_);have GH:=x6 _ _ Jd (λc e fr he=>gg);have yC:=Al.lt (m _ dl);have Yq:=T.mt (m _ dl);have aL:=aM.mono (m _ dl);have aO:=aw.mono (m _ dl);have K6:Kp [x,r,p,d] h l:=K5.trans (W.up io);clear Jd q Al T aM x6 m W K5 aw;cbv;repeat (first|rw[av A] | (refine cy GH ?_;cbv)|(refine zqr ?_;cbv))
  refine pC yC true (λh7 X Yp=>?_);have o:=yC.lk X (tys:=150::411::5::(Cl++kZ)) dl;have C:=o _ _ _ _ dl GH;have K:=Yq.mt (o.sub);have aA:=Q.mono (o.sub);have cE:=aL.mono (o.sub);have cz:=aO.mono (o.sub);have Yp:pV h7 r p false:=Yp;have K7:Kp [x,r,p,d] h h7:=K6.trans (X.up io);clear GH Q yC Yq aL o X K6 aO;cbv;intro n8 h8 nI e8;have B:Le h7 h8:=zqs e8 nI
  have bn:Sl 161 bD h8 (.slice (zsA n8) 1 1) [⟨N,WG,F⟩]:=bh (s:=bD) (cs:=[.string N,.zI WG,.slice vb vn vc]) (zqt e8) ⟨_,_,_,rfl,cz.mono (B.t _)⟩;clear e8;have aB:=B _ _ C;have al:=K.le B;have ag:=Yp.le B;have ax:=aA.mono (B.t _);have ct:Le hP h8:=(an _ K7).trans B;cbv;refine(cE.mono (B.t _)).app bn dl rfl dl bx ct (λm9 b9 c9 h9 cY l9 t9 k9 u9=>?_);have ao:=t9 [150] dl _ _ _ _ dl aB;have:=cm h9 b9 m9 c9 (bc _ l9) ao (ax.mono (t9 _ dl)) (ag.lt (t9 _ dl)) (al.mt (t9 _ dl)) u9;clear cm k9;cbv;refine zqn _ ((b9,m9,c9),A .aX .add .i64 z 1) aZ this
 rw[kQW hc];have fN:i=cs.length:=ip
 subst fN;have az:M.drop cs.length=[]:=wy ip;rw[az,List.flatten_nil,kZA,Zs]at D;rw[kXo]at v;have bV:vr h2 e1 m1 d1 e2 m2 V e3 m3 d3 ⟨f,op,bs,ts⟩:=cn.le (an _ K2);have cp:=v.sl;have cx:Le hP h2:=an _ K2;clear bH dP az Zs IX fl v;cbv;repeat (first|rw[av A] | (refine cy WC ?_;cbv)|(refine cy Np ?_;cbv)|(refine zqr ?_;cbv))
 refine bJN bV cp hB ⟨gg,R.dQK⟩ hL (λh3 f1 o1 g1 f2 o2 g2 f3 o3 g3 tb tc l3 aG cb=>?_);have Cc:=l3 _ _ Np;have Y:=O.le l3;have U:=D.le l3;have Z:=u.mono (l3.t _);have cw:=cx.trans l3;obtain⟨Pu,RW,P,aD⟩:=L';cbv;refine QW cb R.dQK gg (λh4 g4 y aq Hu=>?_);have uj:=y _ _ Cc;have E:=Y.le y;have S:=U.le y;have aH:=aG.le y;have I:=Z.mono (y.t _);have cv:=cw.trans y;generalize fa f cs=TR at *;cbv;refine Ty E S aq Hu (λh5 k5 Al T=>?_);have x5:=Yc E S k5;have Jd:=x5 _ _ uj (λc e fr he=>gg);have q:=I.mono (x5.t dl);have JV:=aH.ls (x5.t dl);have K5:Kp [x,r,p,d] h h5:=(bc _ cv).trans (k5.up io);have dq:=an _ K5;have dd:o1=RW.length:=JV.oO.len;have br:P.length<=2^20:=by
  have h2:bs.length<=2^16:=hB.n2
  grind [eZ,dp]
 have fin:∀l,Kp [x,r,p,d] h l->l x=zcL 150 [.slice (zsA d) n1 L,.slice b2 n2 c2,.slice b3 n3 c3,.slice b4 n4 c4,.zI f,.slice e1 m1 d1,.slice e2 m2 V,.slice e3 m3 d3]->
  dt 61 bT l d L (tt cs.length)->vr l f1 o1 g1 f2 o2 g2 f3 o3 g3 ⟨Pu,RW,P,aD⟩->pV l r p false->gR l p (some a)->∀h',h'=bO l x (.cells #[.slice (zsA d) n1 L,.slice b2 n2 c2,.slice b3 n3 c3,.slice b4 n4 c4,.zI Pu,.slice f1 o1 g1,.slice f2 o2 g2,.slice f3 o3 g3] 150 (0,0))->k (.tuple #[]) h':=λl a1 a2 a3 a4 a5 a6 h' hh=>by
  have x7:ep [150] l h':=by rw[hh];exact gU a2 dl
  exact hk h' f1 o1 g1 f2 o2 g2 f3 o3 g3 (a1.trans (by rw[hh];exact Kp.set io)) (by rw[hh];exact ae) (a3.mono (x7.t dl)) (a4.ls (x7.t dl)) (a5.lt (x7.t dl)) (a6.mt (x7.t dl))
 have fe:A .aQ .eql (A .nat o1) 0=decide (RW.length=0):=by rw[au A,hA.nat];grind
 have aI:kU ⟨Pu,RW,P,aD⟩=if 0<RW.length then [u8 0]else [u8 1]++(cV P).2.1:=rfl
 rw[aI]at T;have mW:A .aQ .eql 0 0=true:=by rw[au A];rfl
 have bl:A .aQ .eql 1 1=true:=by rw[au A];rfl
 obtain⟨dH,Nr,-⟩:=Al.out;clear hk aI Np Cc uj O Y E D U S u Z I aG aH x5 k5;cbv;rw[fe];by_cases Bn:RW.length=0
 .rw[if_neg ip]at T;rw[kS Bn];have T:gR h5 p (some (u8 1::((cV P).2.1++a))):=gg
  have fG:=fF (u8 1) ((cV P).2.1++a);cbv;repeat (first|rw[av A] | (refine cy Nr ?_;cbv)|(refine zqr ?_;cbv))
  refine tY T (λl ky ZP W Yq=>?_);rw[fG]at ZP Yq;have ZP:ky=1:=ZP;subst ZP;cbv;refine bJP true ?_;have m:=T.lt W (tys:=JF) dl;have GH:=m _ _ _ _ dl Jd;have Q:=q.mono (m.sub);have ab:=JV.ls (m.sub);have yC:pV l r p false:=Al.lt (m.sub);have K6:Kp [x,r,p,d] h l:=K5.trans (W.up io);have bz:=jz P;clear Jd q JV Al Nr K5 m W fG;cbv;rw[bl];refine pC yC true (λh7 X Yp=>?_);have o:=yC.lk X (tys:=150::411::5::(Cl++kZ)) dl;have C:=o _ _ _ _ dl GH;have K:=Yq.mt (o.sub);have aA:=Q.mono (o.sub);have aW:=ab.ls (o.sub);have Yp:pV h7 r p false:=Yp;have K7:Kp [x,r,p,d] h h7:=K6.trans (X.up io);have K:gR h7 p (some ((cV P).2.1++a)):=K;clear GH Q ab yC K6 o X Yq;cbv;refine Tu aW.dq br (λh8 g8 B cG=>?_);have aB:=B _ _ C;have ax:=aA.mono (B.t _);have cq:=aW.le B;have ag:=Yp.le B;have al:=K.le B;have K8:Kp [x,r,p,d] h h8:=K7.trans (B.kp _);generalize (cV P).2.1=said at *;generalize (cV P).1=dn at *;generalize (cV P).2.2=de at *;cbv;refine Ty ag al cG bz (λh9 k9 cd ch=>?_);have x9:=Yc ag al k9;have ao:=x9 _ _ aB (λc e fr he=>gg);have ff:=fin h9 (K8.trans (k9.up io)) ao (ax.mono (x9.t dl)) (cq.ls (x9.t dl)) cd ch;clear fin;cbv;repeat rw[av A]
  refine jE ao io (λh' hh=>?_);have:=ff h' hh;cbv;exact this
 rw[if_pos ip]at T;rw[kQW Bn];have T:gR h5 p (some (u8 0::a)):=T;have fG:=fF (u8 0) a;cbv;repeat (first|rw[av A] | (refine cy Nr ?_;cbv)|(refine zqr ?_;cbv))
 refine tY T (λl ky ZP W Yq=>?_);rw[fG]at ZP Yq;have ZP:ky=0:=ZP;subst ZP;cbv;refine bJP false ?_;have m:=T.lt W (tys:=JF) dl;have GH:=m _ _ _ _ dl Jd;have Q:=q.mono (m.sub);have ab:=JV.ls (m.sub);have yC:pV l r p false:=Al.lt (m.sub);have K6:Kp [x,r,p,d] h l:=K5.trans (W.up io);clear Jd q JV Al Nr K5 m W fG;cbv;rw[mW];refine pC yC true (λh7 X Yp=>?_);have o:=yC.lk X (tys:=150::411::5::(Cl++kZ)) dl;have C:=o _ _ _ _ dl GH;have K:=Yq.mt (o.sub);have ff:=fin h7 (K6.trans (X.up io)) C (Q.mono (o.sub)) (ab.ls (o.sub)) Yp K;clear fin;cbv;repeat rw[av A]
 refine jE C io (λh' hh=>?_);have:=ff h' hh;cbv;exact this
structure KS(hb h:ad)(x:Nat)(d:DB)(L:eO):Prop where
 out:∃b1 n1 c1 b2 n2 c2 b3 n3 c3 b4 n4 c4 e1 m1 d1 e2 m2 d2 e3 m3 d3,h x=zcL 150 [.slice b1 n1 c1,.slice b2 n2 c2,.slice b3 n3 c3,.slice b4 n4 c4,.zI L.next,.slice e1 m1 d1,.slice e2 m2 d2,.slice e3 m3 d3]/\
  bA 61 bT hb h (.slice b1 n1 c1) d.ao/\fD h (.agg #[.slice b1 n1 c1,.slice b2 n2 c2,.slice b3 n3 c3,.slice b4 n4 c4]) d/\vr h e1 m1 d1 e2 m2 d2 e3 m3 d3 L
theorem KS.lt{b:ad}{x:Nat}(q:KS b h x d L)(l:cX (150::(zr++kZ)) h h'):KS b h' x d L:=by obtain⟨a,w,i,c,y,j,e,z,k,f,A,m,e1,t,n,r,u,o,s,v,p,g,B,C,D⟩:=q.out;exact⟨a,w,i,c,y,j,e,z,k,f,A,m,e1,t,n,r,u,o,s,v,p,l _ _ _ _ dl g,B.mono (l.sub),C.ls (l.sub),D.ls (l.sub)⟩
theorem KS.le{b:ad}{x:Nat}(q:KS b h x d L)(l:Le h h'):KS b h' x d L:=q.lt (l.t _)
theorem cJU{x r:Nat}{t:St}{b:Bool}(qx:KS a h x d L)(lb:Le a h)(nx:a x=none)(nr:a r=none)(np:a p=none)(qr:pV h r p b)(F:gR h p t)(sm:Small d)
 (y:∀h',Kp [x,r,p] h h'->KS a h' x (oh d t).1 L->pV h' r p (b||(oh d t).2.1)->gR h' p (oh d t).2.2->k (.tuple #[]) h'):
 Ct 143 [.zP x,.zP r] h k:=by
 obtain⟨A,hA⟩:=Ar.ex;obtain⟨dr,gr,IZ⟩:=qr.out;have T:oh d t=match eB (bq t).1 with
  |none=>((bP d WO).1,true,(bq t).2)
  |some x=>((bP d x).1,decide ((bP d x).2≠0),(bq t).2):=rfl
 have iA:(strOf (bq t).1).size<=2^40:=by rw[Fy];have:=Ck t;omega
 have mW:A .aQ .eql 0 0=true:=by rw[au A];rfl
 refine kh bXm A Tryz.func143 ?_;cbv;rw[av A];refine cy gr ?_;cbv;refine BR F (λh1 q U B E=>?_);have x1:Kp [x,r,p] h h1:=B.up io;have Q:=qx.lt (F.lt B dl);have FL:=qr.lt (F.lt B dl);rw[<-U]at iA;have P:jZ q=(bq t).1:=by rw[U,AI]
 rw[<-P]at T;generalize bq t=R1 at *;obtain⟨tx,s1⟩:=R1;have E:gR h1 p s1:=E;clear U P;cbv;refine xQ iA (λn2 c2 m2 h2 zV fA m q2=>?_);cbv;refine aXJ q2 (λh3 s sb sn sc e n q3 Zy=>?_);have T:oh d t=((bP d s).1,(!decide (e=0))||decide ((bP d s).2≠0),s1):=by
  rcases Zy with⟨z,rfl,he⟩|⟨z,he⟩
  .rw[z]at T;rw[kQW he];exact T
  rw[z]at T;rw[kS he];exact T
 clear Zy;have JS:=Q.le (m.trans n);have u:=FL.le (m.trans n);have Pp:=E.le (m.trans n);have x3:=x1.trans ((m.trans n).kp _);have ge:A .aQ .eql e 0=decide (e=0):=au A ..;generalize decide (e=0)=t1 at *;obtain⟨nm,cols,key,only⟩:=s;cbv;rw[ge];refine pC u t1 (λh4 j qK=>?_);have x4:=x3.trans (j.up io);have ua:=JS.lt (u.lk j dl);have w:=Pp.mt (u.lk j dl);have q4:=q3.mono (u.lk j dl);obtain⟨b1,n1,c1,b2,me,fU,b3,n3,c3,b4,n4,c4,e1,m1,d1,e2,m2,d2,e3,m3,d3,uj,ab,J,Eu⟩:=ua.out;cbv;rw[av A];refine cy uj ?_;cbv;refine QH J q4 sm (D:=bP d ⟨nm,cols,key,only⟩) rfl (λh5 M H v fK V Z jH rH jG R S vH l o5=>?_);have YW:Le a h4:=lb.bf (bs:=[x,r,p]) (by simp[nx,nr,np]) x4;have X:=o5.buf.base YW;have G:=o5.db;have xT:=Eu.le l;generalize bP d ⟨nm,cols,key,only⟩=C at *;obtain⟨o,c⟩:=C;have T:oh d t=(o,!t1||decide (c≠0),s1):=T;have fe:A .aQ .eql c 0=decide (c=0):=au A ..;have O:((b|| !t1)|| !decide (c=0))=(b||(!t1||decide (c≠0))):=by simp[Bool.or_assoc]
 rw[T]at y;clear T;have I:=qK.le l;have x5:=x4.trans (l.kp _);have Jd:=l _ _ uj;have G:fD h5 (.agg #[.slice M H v,.slice fK V Z,.slice jH rH jG,.slice R S vH]) o:=G;have X:bA 61 bT a h5 (.slice M H v) o.ao:=X;cbv;rw[fe];refine pC I (decide (c=0)) (λh6 k6 yC=>?_);rw[O]at yC;have x6:=x5.trans (k6.up io);have g:=I.lk k6 (tys:=150::411::5::(zr++kZ)) dl;have Y:=g _ _ _ _ dl Jd;have W:=(w.le l).mt (g.sub);have Ox:=G.ls (g.sub);have N:=X.mono (g.sub);have K:=xT.ls (g.sub);have fin:∀h',h'=bO h6 x (.cells #[.slice M H v,.slice fK V Z,.slice jH rH jG,.slice R S vH,.zI L.next,.slice e1 m1 d1,.slice e2 m2 d2,.slice e3 m3 d3] 150 (0,0))->k (.tuple #[]) h':=λh' f=>by
  have i:ep [150] h6 h':=by rw[f];exact gU Y dl
  exact y h' (x6.trans (by rw[f];exact Kp.set io)) ⟨_,_,_,_,_,_,_,_,_,_,_,_,_,_,_,_,_,_,_,_,_,by rw[f];exact ae,N.mono (i.t dl),Ox.ls (i.t dl),K.ls (i.t dl)⟩ (yC.lt (i.t dl)) (W.mt (i.t dl))
 clear y O;cbv;rw[av A];refine jE Y io (λh' f=>?_);have:=fin h' f;cbv;exact this
theorem fQw{x r:Nat}{s:St}{b:Bool}(qx:KS a h x d L)(lb:Le a h)(nx:a x=none)(nr:a r=none)(np:a p=none)(qr:pV h r p b)(qp:gR h p s)
 (q:∀h',Kp [x,r,p] h h'->KS a h' x (jY d s).1 L->pV h' r p (b||(jY d s).2.1)->gR h' p (jY d s).2.2->k (.tuple #[]) h'):
 Ct 144 [.zP x,.zP r] h k:=by
 obtain⟨dr,gr,IZ⟩:=qr.out;obtain⟨b1,n1,c1,b2,me,fU,b3,n3,c3,b4,n4,c4,e1,m1,d1,e2,m2,d2,e3,m3,d3,K,ab,n,RM⟩:=qx.out;have T:jY d s=((dY d (strOf (bq s).1)).1,decide ((dY d (strOf (bq s).1)).2≠0),(bq s).2):=rfl;refine cB bXl Tryz.func144 λA hA=>?_;cbv;rw[av A];refine cy K ?_;cbv;rw[av A];refine cy gr ?_;cbv;refine BR qp (λo g E V u=>?_);have x4:Kp [x,r,p] h o:=V.up io;have i:=qp.lt V (tys:=150::299::(zr++kZ)) dl;have uj:=i _ _ _ _ dl K;have J:=n.ls (i.sub);have Eu:=RM.ls (i.sub);have qK:=qr.lt (i.sub);rw[<-E]at T;generalize bq s=R1 at *;obtain⟨tx,s1⟩:=R1;have u:gR o p s1:=u;clear E;cbv;refine cy uj ?_;cbv;refine zqr ?_;cbv;refine bQz J g (D:=dY d g) rfl (λO M w m I U H S rH R B F vH l Z=>?_);have YW:Le a o:=lb.bf (bs:=[x,r,p]) (by simp[nx,nr,np]) x4;have X:=Z.buf.base YW;have v:=Z.db;have xT:=Eu.le l;generalize dY d g=C at *;obtain⟨j,c⟩:=C;have T:jY d s=(j,decide (c≠0),s1):=T;have fe:A .aQ .eql c 0=decide (c=0):=au A ..;have z:(b|| !decide (c=0))=(b||decide (c≠0)):=io
 rw[T]at q;clear T;have y:=qK.le l;have x5:=x4.trans (l.kp _);have Jd:=l _ _ uj;have v:fD O (.agg #[.slice M w m,.slice I U H,.slice S rH R,.slice B F vH]) j:=v;have X:bA 61 bT a O (.slice M w m) j.ao:=X;cbv;rw[fe];refine pC y (decide (c=0)) (λP Y yC=>?_);rw[z]at yC;have x6:=x5.trans (Y.up io);have t:=y.lk Y (tys:=150::411::5::(zr++kZ)) dl;have G:=t _ _ _ _ dl Jd;have W:=(u.le l).mt (t.sub);have Ox:=v.ls (t.sub);have N:=X.mono (t.sub);have Q:=xT.ls (t.sub);have fin:∀h',h'=bO P x (.cells #[.slice M w m,.slice I U H,.slice S rH R,.slice B F vH,.zI L.next,.slice e1 m1 d1,.slice e2 m2 d2,.slice e3 m3 d3] 150 (0,0))->k (.tuple #[]) h':=λh' e=>by
  have f:ep [150] P h':=by rw[e];exact gU G dl
  exact q h' (x6.trans (by rw[e];exact Kp.set io)) ⟨_,_,_,_,_,_,_,_,_,_,_,_,_,_,_,_,_,_,_,_,_,by rw[e];exact ae,N.mono (f.t dl),Ox.ls (f.t dl),Q.ls (f.t dl)⟩ (yC.lt (f.t dl)) (W.mt (f.t dl))
 clear q z;cbv;rw[av A];refine jE G io (λh' e=>?_);have:=fin h' e;cbv;exact this
inductive rh:DB->eO->Bs->DB->eO->Prop
 |bXX {d d':DB} {L:eO} {l:Bs} (h1:(aR 1 (some l)).1=1) (h2:oh d (aR 1 (some l)).2=(d',false,some [])):rh d L l d' L
 |drop {d d':DB} {L:eO} {l:Bs} (h1:(aR 1 (some l)).1=2) (h2:jY d (aR 1 (some l)).2=(d',false,some [])):rh d L l d' L
 |tx {d:DB} {L:eO} {cs:List cR} {tt:Nat->List bS} (h1:tt 0=d.ao) (h2:RunT cs tt):rh d L (iU ⟨L.next,cs⟩ (eZ L cs)) (gY d (tt cs.length)) (eZ L cs)
 |lQ {d:DB} {L:eO} (h1:L.oO.length≠0):rh d L (gq ((L.dq.length+1:Nat):Int) (eo (jQ L.oO L.dq))) d (dp L)
theorem fD.dXm{a e f:Option Addr}{n k g m o j:Nat}{T:List bS}(q:fD h (.agg #[.slice b n c,.slice a k g,.slice e m i,.slice f o j]) d)(l:cX [45,79,161,183,253] h h')(v:Sl 61 bT h' (.slice b n c) T):fD h' (.agg #[.slice b n c,.slice a k g,.slice e m i,.slice f o j]) (gY d T):=by obtain⟨_,_,_,_,_,_,_,_,_,_,_,_,ws,p,w,s,t,u,r⟩:=q.out;cases p;exact⟨_,_,_,_,_,_,_,_,_,_,_,_,ws,rfl,v,s.mono (l.sub),t.mono (l.sub),u.mono (l.sub),r⟩
theorem jJD{f:ad}{x:Nat}{N:DB}{l:Bs}(S:rh d L l N L')(qx:KS f h x d L)(lb:Le f h)(Q:f x=none)(hB:xK L)(sm:Small d){e1:Nat}{m:Nat}(q:Sl e1 cD h (.slice b m c) l)
 (B:∀h',Le f h'->KS f h' x N L'->k (.bool true) h'):
 Ct 64 [.zP x,.slice b m c] h k:=by
 obtain⟨A,hA⟩:=Ar.ex;obtain⟨_,_,_,_,_,_,_,_,_,_,_,_,_,_,_,_,_,_,_,_,_,gx,-⟩:=qx.out;have ag:A .aQ .eql 1 1=true:=by rw[au A];rfl
 have ak:A .aQ .eql 2 1=false:=by rw[au A];rfl
 have al:A .aQ .eql 2 2=true:=by rw[au A];rfl
 have an:A .aQ .eql 3 1=false:=by rw[au A];rfl
 have ao:A .aQ .eql 3 2=false:=by rw[au A];rfl
 have aq:A .aQ .eql 3 3=true:=by rw[au A];rfl
 have ar:A .aQ .eql 4 1=false:=by rw[au A];rfl
 have aw:A .aQ .eql 4 2=false:=by rw[au A];rfl
 have ax:A .aQ .eql 4 3=false:=by rw[au A];rfl
 have az:A .aQ .eql 4 4=true:=by rw[au A];rfl
 have Z:A .not false=true:=by rw[hA.not];rfl
 have mW:A .aQ .eql 0 0=true:=by rw[au A];rfl
 refine kh fZz A Tryz.func64 ?_;cbv;refine Wd q (λw p hp l1 R=>?_);cbv;intro r E hr e2;have l2:Le w E:=zqs e2 hr
 have J:E r=zcL 299 [.zP p,.zU 0,.int .i32 0,.zU 0,.bool false]:=zqt e2;have Cw:pV E r p false:=⟨0,J,.inl ⟨rfl,rfl⟩⟩;have q2:=R.le l2;have fk:=l1.trans l2;have uh:=l1.none hr;have O:f p=none:=lb.none hp;have P:f r=none:=lb.none uh;clear e2;cbv;rw[av A];refine cy J ?_;cbv;refine tY q2 (λh3 kx D k3 s=>?_);have l3:Le h h3:=fk.bf (bs:=[p]) (iu hp) k3;have U:=Cw.lt (q2.lt k3 dl);have JS:=qx.le l3;have M:=lb.trans l3;clear R q2 Cw l1 l2 fk k3 J;cases S with
 |bXX G T=>generalize aR 1 (some l)=R1 at *;obtain⟨nk,s1⟩:=R1;have G:nk=1:=G;subst G;have D:kx=1:=D;subst D;have s:gR h3 p s1:=s;have T:oh d s1=(N,false,some []):=T;cbv;rw[ag];cbv;refine cJU JS M Q P O U s sm (λa C v K u=>?_);rw[T]at v K u;have W:Le f a:=M.bf (bs:=[x,r,p]) (by simp[Q,P,O]) C;have v:KS f a x N L:=v;have K:pV a r p false:=K;have u:gR a p (some []):=u;obtain⟨d4,y,-⟩:=K.out;have this:=B a W v;clear B;cbv;rw[av A];refine cy y ?_;cbv;rw[Z];cbv;rw[av A];refine cy y ?_;cbv;refine Ot u (λe g=>?_);have g:e=0:=g.2 rfl;subst g;cbv;rw[mW];exact this
 |drop G T=>generalize aR 1 (some l)=R1 at *;obtain⟨nk,s1⟩:=R1;have G:nk=2:=G;subst G;have D:kx=2:=D;subst D;have s:gR h3 p s1:=s;have T:jY d s1=(N,false,some []):=T;cbv;rw[ak];cbv;rw[al];cbv;refine fQw JS M Q P O U s (λa C v K u=>?_);rw[T]at v K u;have W:Le f a:=M.bf (bs:=[x,r,p]) (by simp[Q,P,O]) C;have v:KS f a x N L:=v;have K:pV a r p false:=K;have u:gR a p (some []):=u;obtain⟨d4,y,-⟩:=K.out;have this:=B a W v;clear B;cbv;rw[av A];refine cy y ?_;cbv;rw[Z];cbv;rw[av A];refine cy y ?_;cbv;refine Ot u (λe g=>?_);have g:e=0:=g.2 rfl;subst g;cbv;rw[mW];exact this
 |tx w E=>
  rename_i cs tt;obtain⟨L',hL⟩:∃L',eZ L cs=L':=⟨_,rfl⟩;rw[hL]at s D B;obtain⟨Y,I,z,V⟩:=L;have e0:iU ⟨Y,cs⟩ L'=u8 3::(cP Y++([u8 (cs.length:Int)]++((cs.mapIdx (dC Y)).flatten++(fa Y cs++(kU L'++[]))))):=by unfold iU jd;simp[kJk]
  rw[show iU ⟨(⟨Y,I,z,V⟩:eO).next,cs⟩ L'=_ from e0,fF]at D s;have D:kx=3:=D;subst D;obtain⟨b1,n1,c1,b2,n2,c2,b3,n3,c3,b4,n4,c4,e1,m1,d1,e2,m2,d2,e3,m3,d3,X,H,Ev,Ow⟩:=JS.out;have fG:n1=d.ao.length:=H.sl.len;have nB:0<n1:=by obtain⟨c,hc⟩:=ay (xs:=cs) (i:=0) E.n.1;obtain⟨ti,t,t',ht,-⟩:=(E.step 0 c hc).out;rw[w]at ht;have:=(HH.1 ht).1;omega
  obtain⟨nb,rfl,eM,-,ow⟩:=H.own nB;cbv;rw[an];cbv;rw[ao];cbv;rw[aq];cbv;refine jJq X (by rw[w];exact ow) (by rw[w];exact fG) Ow hB E U hL s (λa f1 o1 g1 f2 o2 g2 f3 o3 g3 C uj ab Eu K u=>?_);have W:Le f a:=M.bf (bs:=[x,r,p,nb]) (by simp[Q,P,O,eM]) C;have F:n1=(tt cs.length).length:=by rw[E.len cs.length (qA _),w];exact fG
  have x4:ep [150,299,411,61] h3 a:=by
   obtain⟨dr,J,-⟩:=U.out;obtain⟨rr,R,-⟩:=s.out;obtain⟨bb,n,c,d2,g2,-⟩:=R.out;obtain⟨cc,gc,-⟩:=ow.out;exact C.x (λb f o j=>by
    simp only[kXB,kQK,or_false]at f;rcases f with rfl|rfl|rfl|rfl
    .rw[X]at j;cases j;exact⟨_,_,_,rfl,dl⟩
    .rw[J]at j;cases j;exact⟨_,_,_,rfl,dl⟩
    .rw[g2]at j;cases j;exact⟨_,_,_,rfl,dl⟩
    rw[gc]at j;cases j;exact⟨_,_,_,rfl,dl⟩)
  have v:KS f a x (gY d (tt cs.length)) L':=⟨_,_,_,_,_,_,_,_,_,_,_,_,_,_,_,_,_,_,_,_,_,uj,ab.buf eM F,Ev.dXm (x4.t dl) (ab.sl F),Eu⟩;obtain⟨d4,y,-⟩:=K.out;have this:=B a W v;clear B;cbv;rw[av A];refine cy y ?_;cbv;rw[Z];cbv;rw[av A];refine cy y ?_;cbv;refine Ot u (λe g=>?_);have g:e=0:=g.2 rfl;subst g;cbv;rw[mW];exact this
 |lQ w=>
  obtain⟨Y,I,z,V⟩:=L;have w:I.length≠0:=w;have e0:gq ((z.length+1:Nat):Int) (eo (jQ I z))=u8 4::(cP ((z.length+1:Nat):Int)++(eo (jQ I z)++[])):=by unfold gq;simp[kJk]
  rw[show gq (((⟨Y,I,z,V⟩:eO).dq.length+1:Nat):Int) (eo (jQ (⟨Y,I,z,V⟩:eO).oO (⟨Y,I,z,V⟩:eO).dq))=_ from e0,fF]at D s;have D:kx=4:=D;subst D;obtain⟨b1,n1,c1,b2,n2,c2,b3,n3,c3,b4,n4,c4,e1,m1,d1,e2,m2,d2,e3,m3,d3,X,H,Ev,Ow⟩:=JS.out;cbv;rw[ar];cbv;rw[aw];cbv;rw[ax];cbv;rw[az];cbv;refine cKm X Ow hB w U s (λa f1 o1 g1 f2 o2 g2 f3 o3 g3 C uj Eu K u=>?_);have W:Le f a:=M.bf (bs:=[x,r,p]) (by simp[Q,P,O]) C;have x4:ep [150,299,411] h3 a:=by
   obtain⟨dr,J,-⟩:=U.out;obtain⟨rr,R,-⟩:=s.out;obtain⟨bb,n,c,d2,g2,-⟩:=R.out;exact C.x (λb f o j=>by
    simp only[kXB,kQK,or_false]at f;rcases f with rfl|rfl|rfl
    .rw[X]at j;cases j;exact⟨_,_,_,rfl,dl⟩
    .rw[J]at j;cases j;exact⟨_,_,_,rfl,dl⟩
    rw[g2]at j;cases j;exact⟨_,_,_,rfl,dl⟩)
  have v:KS f a x d (dp ⟨Y,I,z,V⟩):=⟨_,_,_,_,_,_,_,_,_,_,_,_,_,_,_,_,_,_,_,_,_,uj,H.mono (x4.t dl),Ev.ls (x4.t dl),Eu⟩;obtain⟨d4,y,-⟩:=K.out;have this:=B a W v;clear B;cbv;rw[av A];refine cy y ?_;cbv;rw[Z];cbv;rw[av A];refine cy y ?_;cbv;refine Ot u (λe g=>?_);have g:e=0:=g.2 rfl;subst g;cbv;rw[mW];exact this
def lz:eO:=⟨0,[],[],[]⟩
structure xI(fj:List Bs)(sd:Nat->DB)(sl:Nat->eO):Prop where
 d0:sd 0=dz
 l0:sl 0=lz
 step:∀i l,fj[i]? =some l->rh (sd i) (sl i) l (sd (i+1)) (sl (i+1))
 zd:∀i,i<=fj.length->xK (sl i)
 small:∀i,i<=fj.length->Small (sd i)
theorem fQl{D:Dk}(q:oa h p D)(hP:1<=D.now.length){f:List Bs}{E:Nat->DB}{sl:Nat->eO}(hL:(gK D).2=0/\(gK D).1.bad=false/\(gK D).1.fj=f)(R:xI f E sl)
 (I:∀h' a s g x,ep Sa h h'->cJW h' s g x->Jw h' g p (gK D).1.size (gK D).1.count->KS a h' x (E f.length) (sl f.length)->k (.tuple #[.zP s,.zI 0]) h'):
 Ct 19 [.zP p] h k:=by
 obtain⟨A,V⟩:=Ar.ex;have mW:A .aQ .neq 0 0=false:=by rw[aJ A];rfl
 have OQ:A .not true=false:=by rw[V.not];rfl
 obtain⟨K,T,X⟩:=hL;refine kh dQQ A Tryz.func19 ?_;cbv;refine aXN q hP (λd e x1 he a=>?_) (λd g b m c h0 ab x1 ql n=>?_)
 .exfalso;rcases a with a|a
  .exact a K
  rw[T]at a;cases a
 rw[X]at n;generalize (gK D).1.size=sz at *;generalize (gK D).1.count=cn at *;have Z:=n.len;obtain⟨al,ag⟩:=n.bound;cbv;rw[mW];cbv;intro x t hx F;have l2:Le d t:=zqs F hx
 have g2:t x=zcL 150 [.zN,.zN,.zN,.zN,.zI 0,.zN,.zN,.zN]:=zqt F;have qx:KS d t x (E 0) (sl 0):=by rw[R.d0,R.l0];exact⟨_,_,_,_,_,_,_,_,_,_,_,_,_,_,_,_,_,_,_,_,_,g2,bA.nil,⟨_,_,_,_,_,_,_,_,_,_,_,_,[],rfl,Sl.nil,Sl.nil,Sl.nil,Sl.nil,rfl⟩,⟨Sl.nil,Sl.nil,Sl.nil⟩⟩
 clear F;obtain⟨J,H⟩:∃J:Nat->Int->ad->Prop,∀w z h',J w z h'=(∃i,bg z i/\w=m-i/\i<=m/\Le d h'/\KS d h' x (E i) (sl i)):=⟨_,λ_ _ _=>rfl⟩;have P:J m 0 t:=by rw[H];exact⟨0,⟨rfl⟩,rfl,ip,l2,qx⟩
 cbv;refine ba.gz (G:=Int) (λz=>[(27,.v (.zI z))]) (λ_=>[]) (λw z h'=>J w z h') m 0 P ?_
 intro w z O Y;rw[H]at Y;cbv;obtain⟨i,y,hw,hi,B,C⟩:=Y;have fl:A .aQ .lss z (A .nat m)=decide (i<m):=by rw[aV A,y.eq,V.nat];exact decide_eq_decide.2 (by show(i:Int)<(m:Int)↔_;omega)
 rw[fl];by_cases Q:i<m
 .obtain⟨l,hl⟩:=cK f i;have S:=R.step i l hl;have lB:=R.zd i ip;have sm:=R.small i ip;have ix:=y.ix Q;have Pp:=n.mono (B.t _);have aZ:m-(i+1)<w:=ip
  have ly:=y.succ (A:=A);rw[kS Q];clear fl P;cbv;refine⟨⟨n.bu,ix⟩,?_⟩;cbv;refine Pp.load hl y.eq (λcs ar=>?_);obtain⟨v,rfl,qv⟩:=ar;obtain⟨vb,vm,vc,rfl⟩:∃vb vm vc,v=.slice vb vm vc:=by obtain⟨b',cap,e1,-⟩:=qv.out;exact⟨_,_,_,e1⟩
  cbv;refine jJD S C B hx lB sm qv (λj U q4=>?_);have:=show J (m-(i+1)) (A .aX .add .i64 z 1) j by rw[H];exact⟨i+1,ly,rfl,ip,U,q4⟩
  clear H I;cbv;rw[OQ];cbv;refine zqn (m-(i+1)) (A .aX .add .i64 z 1) aZ this
 have UY:i=m:=ip
 have L:i=f.length:=ip
 rw[L]at C;rw[kQW Q];have M:∃o,o.length=8/\O x=zcL 150 o:=by obtain⟨_,_,_,_,_,_,_,_,_,_,_,_,_,_,_,_,_,_,_,_,_,N,-⟩:=C.out;exact⟨_,rfl,N⟩
 obtain⟨o,ak,N⟩:=M;clear fl H P;cbv;intro s j hs r;have U:Le O j:=zqs r hs
 have g4:j s=zcL 158 [.zP g,.pointer none]:=zqt r;have hq:∀h',h'=bO j s (.cells #[.zP g,.zP x] 158 (0,0))->k (.tuple #[.zP s,.zI 0]) h':=λh' u=>by
  have W:Le O h':=by rw[u,r,eI];exact Le.set hs
  exact I h' d s g x (x1.trans ((B.trans W).x _)) ⟨by rw[u];exact ae⟩ (ql.lt ((B.trans W).t _)) (C.le W)
 have uj:=U _ _ N;clear r I;cbv;rw[av A];refine Ah g4 rfl (cJ (x:=o[0]) uj (kZG _)) (λh' u=>?_);have:=hq h' u;cbv;exact this
theorem cKh{d:Nat->DB}{sl:Nat->eO}(q:oa h p g.D)(I:xJ g P r)(a:0<P)(i:g.s<2^60)(n:g.n<2^60)(R:xI r d sl)
 (f:∀h' s,ep Sa h h'->nT h' s p g (d r.length) (sl r.length)->k (.tuple #[.zP s,.zI 0]) h'):
 Ct 19 [.zP p] h k:=by
 have hl:=Ez I a i n;refine fQl q (by rw[I.ja.len];exact a) (by rw[hl];exact⟨rfl,rfl,rfl⟩) R (λh' H s c x b m l o=>?_);rw[hl]at l;obtain⟨t,N,y,u,O,z,v,Q,A,w,S,B,e1,J,C,F,K,D,G,M,E,e,T,j,L⟩:=o.out;exact f h' s b ⟨_,_,_,_,_,_,_,_,_,⟨c,x,m,l,q.lt (b.t dl),⟨_,_,_,_,_,_,_,_,_,_,_,_,e,j⟩⟩,L⟩
theorem ET(q:nT h s p G d L)
 (r:∀h' b n e a j f c l i,Le h h'->vr h' b n e a j f c l i L->k (.agg #[.zI L.next,.slice b n e,.slice a j f,.slice c l i]) h'):Ct 15 [.zP s] h k:=by
 obtain⟨e1,v,J,P,w,N,Q,y,O,D,B⟩:=q.out;obtain⟨g,x,C,V,X,E⟩:=D.out;obtain⟨b,n,e,a,j,f,c,l,i,F,S,I,m,T⟩:=E.out;obtain⟨Y,rI,Z,zb⟩:=L;refine cB fZG Tryz.func15 λA R=>?_;cbv;rw[av A];refine zx (cJ C.out rfl) m rfl ?_;cbv;rw[av A];refine cy m ?_;cbv;refine bXE B (λo M W K U H t u z=>?_);have:=r o M v W K w U H y t u z;cbv;exact this
theorem fZJ(q:nT h s p G d L)(a:hXB h d k):Ct 13 [.zP s] h k:=by obtain⟨e1,m,b,f,i,c,g,j,e,w,l⟩:=q.out;exact fQb w a
theorem KU(q:nT h s p G d L){nm:ByteArray}{cols:List jR}{key:Int}{only:Bool}{n:Nat}(m:Sl 202 bJ h (.slice b n c) cols)
 (Z:n<=2^16) (a:nm.size<=2^40) (e:∀x∈cols,x.name.size<=2^40) (r:Small d) (i:G.s<=2^29) (g:G.n<=2^29) (j:G.D.ws.length<=2^28) 
 (f:∀h',ep JE h h'->nT h' s p (fQ G d ⟨nm,cols,key,only⟩).2.1 (fQ G d ⟨nm,cols,key,only⟩).2.2 L->k (.zI (fQ G d ⟨nm,cols,key,only⟩).1) h'):
 Ct 36 [.zP s,.agg #[.string nm,.slice b n c,.zI key,.bool only]] h k:=by
 obtain⟨e1,A,t,y,B,u,z,C,v,o,l⟩:=q.out;exact bXR o m Z a e r i g j (λh' x w=>f h' x ⟨_,_,_,_,_,_,_,_,_,w,l.ls (x.t dl)⟩)
theorem bJR(q:nT h s p G d L)(nm:ByteArray)(c:nm.size<=2^40)(b:G.s<=2^29)(n:G.n<=2^29)(e:G.D.ws.length<=2^28)
 (a:∀h',ep JE h h'->nT h' s p (mj G d nm).2.1 (mj G d nm).2.2 L->k (.zI (mj G d nm).1) h'):
 Ct 67 [.zP s,.string nm] h k:=by
 obtain⟨e1,r,g,m,t,i,o,u,j,f,l⟩:=q.out;exact fQu f nm c b n e (λh' x w=>a h' x ⟨_,_,_,_,_,_,_,_,_,w,l.ls (x.t dl)⟩)
theorem rf(I:xJ g P r)(l:Bs)(hl:l.length<=65536)(b:0<P):(∃a,aY g l=(0,a)/\xJ a P (r++[l])/\a.s=g.s+8+l.length/\64+a.s<=P*64)\/aY g l=(14,g):=by
 by_cases h:64+g.s+8+l.length<=P*64
 .grind [Dp,hl,inl]
 refine .inr ?_;have p:=I.ja.len
 grind [aY]
theorem xI.nil:xI [] (λ_=>dz) (λ_=>lz)where
 d0:=rfl
 l0:=rfl
 step:=λi l h=>by cases h
 zd:=λ_ _=>⟨⟨tB _,dl⟩,λt ht=>(by cases ht),kXH _,kXH _,kXH _⟩
 small:=λ_ _=>hXG.small
theorem xI.snoc{s:Nat->DB}{sl:Nat->eO}(R:xI r s sl){l:Bs}(S:rh (s r.length) (sl r.length) l d L)(B:xK L)(m:Small d):
 ∃Z b,xI (r++[l]) Z b/\Z (r++[l]).length=d/\b (r++[l]).length=L:=by
 have n:(r++[l]).length=r.length+1:=gg
 refine⟨λi=>if i<=r.length then s i else d,λi=>if i<=r.length then sl i else L,⟨?_,?_,λi x hx=>?_,λi a=>?_,λi a=>?_⟩,?_,?_⟩
 .show(if 0<=r.length then s 0 else d)=dz;rw[if_pos (kXH _)];exact R.d0
 .show(if 0<=r.length then sl 0 else L)=lz;rw[if_pos (kXH _)];exact R.l0
 .have a:i<r.length+1:=by
   grind
  by_cases c:i<r.length
  .rw[kQU c]at hx;show rh (if i<=r.length then s i else d) (if i<=r.length then sl i else L) x (if i+1<=r.length then s (i+1)else d) (if i+1<=r.length then sl (i+1)else L);rw[if_pos ip,if_pos ip,if_pos ip,if_pos ip];exact R.step i x hx
  grind
 .show xK (if i<=r.length then sl i else L);split
  .rename_i h;exact R.zd i h
  exact B
 .show Small (if i<=r.length then s i else d);split
  .rename_i h;exact R.small i h
  exact m
 .grind
 grind
theorem aJT(h:-2^63<=z/\z<2^63):IntKind.i64.wrap ((nL (cP z):Nat):Int)=z:=by
 obtain⟨n,a⟩:∃n:Nat,(n:Int)=z % 18446744073709551616:=⟨(z % 18446744073709551616).toNat,Int.toNat_of_nonneg (kKb _ dl)⟩;have Z:n<18446744073709551616:=gg
 have b:∀k,(iJ z k).toNat=n / 2^(8*k) % 256:=λk=>by
  grind [iJ,Ci]
 have e1:nL (cP z)=n:=by show nL [iJ z 0,iJ z 1,iJ z 2,iJ z 3,iJ z 4,iJ z 5,iJ z 6,iJ z 7]=n;simp only[nL,b];omega
 rw[e1,a];have d:(2:Int)^63=9223372036854775808:=rfl;show(IntKind.i64.wrap (z % 18446744073709551616))=z;by_cases c:0<=z
 .rw[show z % 18446744073709551616=z from by omega,IntWalk.i64_in _ ip]
 have:z % 18446744073709551616=z+18446744073709551616:=ip
 rw[this];have w:IntKind.i64.wrap (z+18446744073709551616)=IntKind.i64.wrap z:=by unfold IntKind.wrap;simp[IntKind.bits,IntKind.signed]
 rw[w,IntWalk.i64_in _ ip]
theorem YJ(h:-2^63<=z/\z<2^63)(r:Bs):IntKind.i64.wrap ((aR 8 (some (cP z++r))).1:Int)=z/\(aR 8 (some (cP z++r))).2=some r:=by
 grind [JZ,ck,aJT]
theorem Xd{v:jq}(h:dS v=0)(a:-2^63<=v.n/\v.n<2^63)(r:Bs):jK (some (ju v++r))=(v,some r):=by
 obtain⟨k,n,s⟩:=v;have b:k=0\/k=1\/k=2\/k=3:=by
  grind [dS]
 have u:(u8 0).toNat=0:=rfl;have f:(u8 1).toNat=1:=rfl;have g:(u8 2).toNat=2:=rfl;have u3:(u8 3).toNat=3:=rfl;rcases b with rfl|rfl|rfl|rfl
 .simp[dS,ij,iM]at h;have c:n=0/\s=⟨#[]⟩:=Decidable.byContradiction λc=>by
   grind
  obtain⟨rfl,rfl⟩:=c;show jK (some (u8 0::r))=_
  grind [jK,fF]
 .simp[dS,ij,iM]at h;have c:s=⟨#[]⟩/\(n=0\/n=1):=Decidable.byContradiction λc=>by
   grind
  obtain⟨rfl,c⟩:=c;rcases c with rfl|rfl
  .show jK (some (u8 1::u8 0::r))=_
   grind [jK,fF,aR,u8]
  show jK (some (u8 1::u8 1::r))=_
  grind [jK,fF,aR,u8]
 .simp[dS,ij,iM]at h;have c:s=⟨#[]⟩:=Decidable.byContradiction λc=>gg
  subst c;have a:-2^63<=n/\n<2^63:=a;obtain⟨a1,a2⟩:=YJ a r;show jK (some (u8 2::(cP n++r)))=_
  grind [jK,fF,aR,cP]
 simp[dS,ij,iM]at h;have c:n=0/\s.size<=60:=Decidable.byContradiction λc=>by
  grind
 obtain⟨rfl,e⟩:=c;have t:=AE (s:=s) ip r;have d:strOf (jZ s)=s:=by unfold strOf jZ;simp
 show jK (some (u8 3::(dZ s++r)))=_;unfold jK
 grind [fF,u3,strOf,bq,dZ]
theorem TO:∀(l:Row) (r:Bs),(∀v∈l,dS v=0/\-2^63<=v.n/\v.n<2^63)->fM l.length (some (l.flatMap ju++r))=(l,some r):=λl=>by
 induction l with
 |nil=>intro r _;rfl
 |cons v l i=>intro r h;have a:=h v (kXi ..);show((jK (some ((v::l).flatMap ju++r))).1::(fM l.length (jK (some ((v::l).flatMap ju++r))).2).1,(fM l.length (jK (some ((v::l).flatMap ju++r))).2).2)=_;rw[List.flatMap_cons,kJk,Xd a.1 a.2];show(v::(fM l.length (some (l.flatMap ju++r))).1,(fM l.length (some (l.flatMap ju++r))).2)=_;rw[i r (λx hx=>h x (kQH _ hx))]
theorem Mf{l:Row}(b:l.length<=6)(h:∀v∈l,dS v=0/\-2^63<=v.n/\v.n<2^63):gJ (gH l)=some l:=by
 have hl:(u8 (l.length:Int)).toNat=l.length:=by rw[Ci];omega
 have a:=TO l [] h;rw[kJH]at a;unfold gJ gH
 grind [fF,hl,kf,fM,ju]
end Go.S
