import Derived.Test.YthnbpiejemlbeaaGreatBO
import Derived.Test.YthnbpiejemlbeaaGreatBK
set_option linter.all false
set_option maxRecDepth 100000
set_option maxHeartbeats 8000000
namespace Go.S
open Go.Sx Go.Proofs
variable {e:Bs}{s:ByteArray}{d:DB}{G:Lg}{ts:List (List mQ)}{H c c1 m n p r:Nat}{b:Option Addr}{k:Value->ad->Prop}{L':Value×Value×Value×Value}{h h':ad}{L:eO}
def dC(id:Int)(i:Nat)(c:cR):Bs:=(([u8 c.op]++dZ c.table)++dZ (strOf (gH c.row)))++df id i c
def jd(id:Int)(n:Nat):Bs:=([u8 3]++cP id)++[u8 (n:Int)]
def kU(L:eO):Bs:=if 0<L.oO.length then [u8 0]else [u8 1]++(cV L.dq).2.1
def iU(t:mQ)(L:eO):Bs:=((jd t.id t.KL.length++(t.KL.mapIdx (dC t.id)).flatten)++fa t.id t.KL)++kU L
def gq(n:Int)(said:Bs):Bs:=([u8 4]++cP n)++said
theorem QJ(id:Int)(i:Nat)(c:cR):(dC id i c).length<=2^18:=by
 unfold dC;have h:=gA c.table;have a:=gA (strOf (gH c.row));have b:(df id i c).length=32:=gu _
 grind
theorem Jg{l:List Bs}(h:∀x∈l,x.length<=m):l.flatten.length<=l.length*m:=by
 induction l with
 |nil=>simp
 |cons a l i=>have b:=h a (kXi ..);have c:=i (λx hx=>h x (kQH _ hx));rw[kQG,kXy,kZs,kZi];omega
theorem NO(id:Int)(L:List cR)(i:Nat):(((L.mapIdx (dC id)).take i).flatten).length<=L.length*2^18:=by
 have h:((L.mapIdx (dC id)).take i).flatten.length<=((L.mapIdx (dC id)).take i).length*2^18:=Jg (λx hx=>by
  grind [hx,QJ])
 grind
theorem aJa(x:Int)(g:Nat->Int):iv (.zI 0::List.replicate 32 (.int .u8 0)) 0 (.zI x::hl g)=.zI x::hl g:=by kernel_rfl
theorem cJS{id nx:Int}{b1 b2 b3:Option Addr}{n1 n2 c2 n3 c3:Nat}{cs:List cR}{y:List mQ}{bs:List nV}(q:Sl 161 bD h (.slice b n c) cs)(ql:vr h b1 n1 c1 b2 n2 c2 b3 n3 c3 ⟨nx,y,bs,ts⟩)
 (hB:∀x∈cs,yT x) (hn:cs.length<=255) (hb:bs.length<=2^20) 
 (f:∀h' a n' c',Le h h'->bA 5 cD h h' (.slice a n' c') (iU ⟨id,cs⟩ ⟨nx,y,bs,ts⟩)->n'<=2^27->k (.slice a n' c') h'):
 Ct 53 [.agg #[.zI id,.slice b n c],.agg #[.zI nx,.slice b1 n1 c1,.slice b2 n2 c2,.slice b3 n3 c3]] h k:=by
 obtain⟨A,hA⟩:=Ar.ex;have ag:=q.len;have fG:n1=y.length:=ql.oO.len;have hR:iU ⟨id,cs⟩ ⟨nx,y,bs,ts⟩=((jd id cs.length++(cs.mapIdx (dC id)).flatten)++fa id cs)++(if 0<y.length then [u8 0]else [u8 1]++(cV bs).2.1):=rfl;rw[hR]at f;clear hR;have Aq:jd id cs.length=(([]++[u8 3])++cP id)++[u8 (A .nat n)]:=by rw[hA.nat,ag];rfl
 have Su:(jd id cs.length).length=10:=by unfold jd;simp[ck]
 obtain⟨H,hH⟩:∃H,H=jd id cs.length:=⟨_,rfl⟩;rw[<-hH]at f Aq Su;clear hH;have qu:=NO id cs;have Qc:∀ {i:Nat} {x:cR},cs[i]? =some x->(cs.mapIdx (dC id))[i]? =some (dC id i x):=λh=>gg
 have sS:(cs.mapIdx (dC id)).length=cs.length:=List.length_mapIdx;generalize cs.mapIdx (dC id)=M at *;obtain⟨J,O⟩:∃J:Nat->((Option Addr×Nat×Nat)×Int)->ad->Prop,∀w g h',J w g h'=(∃i,bg g.2 i/\w=n-i/\i<=n/\Le h h'/\bA 5 cD h h' (.slice g.1.1 g.1.2.1 g.1.2.2) (H++(M.take i).flatten)):=⟨_,λ_ _ _=>rfl⟩;refine kh iQJ A Tryz.func53 ?_;cbv;refine pG (l:=[]) Sl.nil ip 3 (λh1 d1 m1 e1 l1 q1=>?_);have al:=q1.sl.len;rw[kZA,kXm]at al;cbv;refine Oq q1.sl ip id (λh2 d2 m2 e2 l2 q2=>?_);have zV:=q2.sl.len;rw[kXy,ck,kZA,kXm]at zV;cbv;refine pG q2.sl ip (A .nat n) (λh3 d3 m3 e3 l3 q3=>?_);have ao:=(l1.trans l2).trans l3;have q3:bA 5 cD h h3 (.slice d3 m3 e3) H:=by rw[Aq];exact q3.base (l1.trans l2)
 have dP:J n ((d3,m3,e3),0) h3:=by rw[O];exact⟨0,⟨rfl⟩,rfl,ip,ao,gg⟩
 clear q1 q2 q3 Aq;cbv;refine ba.gz (G:=(Option Addr×Nat×Nat)×Int) (λg=>[(5,.v (.slice g.1.1 g.1.2.1 g.1.2.2)),(23,.v (.zI g.2))]) (λ_=>[(2,[.zI id,.slice b n c]),(3,[.zI nx,.slice b1 n1 c1,.slice b2 n2 c2,.slice b3 n3 c3])]) (λw g h'=>J w g h') n ((d3,m3,e3),0) dP ?_
 intro w g h4 hI;rw[O]at hI;cbv;obtain⟨⟨gb,gm,gc⟩,z⟩:=g;obtain⟨i,u,hw,hi,C,d⟩:=hI;have u:bg z i:=u;have d:bA 5 cD h h4 (.slice gb gm gc) (H++(M.take i).flatten):=d;have nQ:=d.sl.len;have aL:=qu i;rw[kXy,Su]at nQ;have f1:A .aQ .lss z (A .nat n)=decide (i<n):=by rw[aV A,u.eq,hA.nat];grind
 rw[f1];by_cases hc:i<n
 .rw[kS hc];obtain⟨x,hx⟩:=cK cs i;have MO:=hB x (kQR hx);have ix:=u.ix hc;have iK:b.isSome=true:=q.bu;have aZ:n-(i+1)<w:=ip
  have fV:=mI (Qc hx);have mg:(df id i x).length=32:=gu _;have cm:∀a m' c' h',Le h h'->bA 5 cD h h' (.slice a m' c') ((((H++(M.take i).flatten)++[u8 x.op])++(gI x.table++fX x.table))++(gI (strOf (gH x.row))++fX (strOf (gH x.row)))++df id i x)->J (n-(i+1)) ((a,m',c'),A .aX .add .i64 z 1) h':=λa m' c' h' l' q'=>by
   rw[O];refine⟨i+1,u.succ (A:=A),rfl,hc,l',?_⟩;rw[fV,List.flatten_append,kQG,List.flatten_nil,kJH];have e:H++((M.take i).flatten++dC id i x)=(((H++(M.take i).flatten)++[u8 x.op])++(gI x.table++fX x.table))++(gI (strOf (gH x.row))++fX (strOf (gH x.row)))++df id i x:=by
    grind [dC,dZ]
   grind
  have ht:=gA x.table;have Bh:=gA (strOf (gH x.row));have uf:=df id i x;clear f1 O dP fV Qc qu;generalize H++(M.take i).flatten=P at *;obtain⟨t,K,r⟩:=x;cbv;refine⟨⟨iK,ix⟩,?_⟩;cbv;refine(q.MB C hx u.eq (λcs ar=>?_));obtain⟨rb,rn,rc,rfl,qr⟩:=ar;have qr:Sl 45 bG h (.slice rb rn rc) r:=qr;cbv;refine pG d.sl ip K (λh5 d5 m5 e5 D q5=>?_);have Lf:=q5.sl.len;rw[kXy,kXm,<-d.sl.len]at Lf;cbv;refine BS (e1:=0) q5.sl ip t MO.bXX (λh6 d6 m6 e6 l6 q6=>?_);have ht:(gI t++fX t).length<=65537:=ht;have Sr:m6<=m5+65537:=by have:=q6.sl.len;rw[kXy,<-q5.sl.len]at this;omega
  cbv;refine Oj (qr.mono (((C.trans D).trans l6).t _)) (by rw[qr.len];exact MO.row) MO.val (λh7 d7 m7 e7 l7 q7 aI=>?_);have iA:=Fy (gH r);have Bh:(gI (strOf (gH r))++fX (strOf (gH r))).length<=65537:=Bh;have cm:∀a m' c' h',Le h h'->bA 5 cD h h' (.slice a m' c') ((((P++[u8 K])++(gI t++fX t))++(gI (strOf (gH r))++fX (strOf (gH r))))++df id i ⟨t,K,r⟩)->J (n-(i+1)) ((a,m',c'),A .aX .add .i64 z 1) h':=cm;have mg:(df id i ⟨t,K,r⟩).length=32:=mg;have Lj:=d.sl.len;generalize gH r=S at *;cbv;refine rU q7.sl ?_;cbv;refine BS (e1:=0) (q6.sl.mono (l7.t _)) ip (strOf S) ip (λh8 d8 m8 e8 I j=>?_);have az:m8<=m6+65537:=by have:=j.sl.len;rw[kXy,<-q6.sl.len]at this;omega
  have Z:=(((C.trans D).trans l6).trans l7).trans I;have j:=j.base (((C.trans D).trans l6).trans l7);cbv;refine aXO u (qr.mono (Z.t _)) MO (λs g v hg=>?_);generalize df id i ⟨t,K,r⟩=RH at *;generalize ((P++[u8 K])++(gI t++fX t))++(gI (strOf S)++fX (strOf S))=Q at *;have ab:=Z.trans v;cbv;intro F B U E;have gD:Le s B:=zqs E U
  have Ns:B F=zcL 100 (List.replicate 32 (.int .u8 0)):=zqt E;have R:=ab.none U;have z9:=U;clear E;cbv;refine jE Ns (qA _) (λV m=>?_);have p:=rS m (xP _ _);have aq:Kp [F] B V:=by rw[m];exact Kp.set io
  have L:Le s V:=gD.bf (bs:=[F]) (iu z9) aq;clear m;have vL:=j.mono ((v.trans L).t _);cbv;refine vL.app (kG p hg mg) dl rfl dl ip (ab.trans L) (λX T N tM W fk aN ak KW=>?_);have iL:=cm T X N tM fk KW;clear cm ak;cbv;refine zqn _ ((T,X,N),A .aX .add .i64 z 1) aZ iL
 rw[kQW hc];rw[kXe ip]at d;have aB:=qu cs.length;rw[kXe ip]at aB;have nQ:=d.sl.len;rw[kXy,Su]at nQ;clear O dP Qc qu;cbv;refine QW (q.mono (C.t _)) hB ip (λh5 g D hg pw=>?_);generalize fa id cs=TR at *;have q5:=d.mono (D.t _);have PE:=C.trans D;cbv;intro n6 h6 MZ e6;have l6:Le h5 h6:=zqs e6 MZ
 have g6:h6 n6=zcL 100 (List.replicate 32 (.int .u8 0)):=zqt e6;have z6:=MZ;clear e6;cbv;refine jE g6 (qA _) (λh7 e7=>?_);have g7:=rS e7 (xP _ _);have PD:Le h5 h7:=l6.bf (bs:=[n6]) (iu z6) (by rw[e7];exact Kp.set io);clear e7;have q7:=q5.mono (PD.t _);cbv;refine q7.app (kG g7 hg pw) dl rfl dl ip (PE.trans PD) (λm8 b8 c8 h8 az I t8 k8 j=>?_);clear k8;have Lj:m8<=2^26+2^10:=ip
 have f0:A .aQ .gtr (A .nat n1) 0=decide (0<y.length):=by rw[bF A,hA.nat];grind
 cbv;rw[f0];by_cases Bn:0<y.length
 .rw[if_pos Bn]at f;rw[kS Bn];cbv;refine pG j.sl ip 0 (λs d9 m9 e9 v q9=>?_);have aA:=q9.sl.len;rw[kXy,kXm,<-j.sl.len]at aA;have:=f s d9 m9 e9 (I.trans v) (q9.base I) ip;clear f;cbv;exact this
 rw[if_neg Bn]at f;rw[kQW Bn];have aE:=ql.dq.mono (I.t _);have aC:=jz bs;cbv;refine Tu aE hb (λs g9 v aG=>?_);generalize (cV bs).2.1=said at *;generalize (cV bs).1=dn at *;generalize (cV bs).2.2=de at *;cbv;intro F B U E;have gD:Le s B:=zqs E U
 have Ns:B F=zcL 102 (.zI 0::List.replicate 32 (.int .u8 0)):=zqt E;have R:=U;clear E;cbv;refine jE Ns (qA _) (λV m=>?_);have p:V F=zcL 102 (.zI dn::hl g9):=by have:=zqt m;rw[this];exact congrArg (λc=>some (Obj.cells (List.toArray c) 102 (0,0))) (aJa dn g9)
 have L:Le s V:=gD.bf (bs:=[F]) (iu R) (by rw[m];exact Kp.set io);clear m;have vL:=j.mono ((v.trans L).t _);have Y:=I.trans (v.trans L);have sp:Sl 102 cD V (.slice (some ⟨F,1,none⟩) 32 32) said:=xU (o:=1) (x:=said) p (by rw[<-aG];rfl) aC;cbv;rw[av A];refine pG vL.sl ip 1 (λtM aH X aK fk KW=>?_);have W:=KW.sl.len;rw[kXy,kXm,<-vL.sl.len]at W;cbv;refine KW.app (sp.mono (fk.t _)) dl rfl dl ip fk (λaD aF an ax aM nN aO aw Pp=>?_);have:=f ax aF aD an (Y.trans nN) (by rw[<-kJk];exact Pp.base Y) ip;clear f aw;cbv;exact this
theorem bJy{s:Nat}{d':DB}{L:Value×Value×Value×Value}(q:DO h s p G d L){l:Bs}(qb:Sl 5 cD h (.slice b m c) l)(hs:G.s<=2^29)(hn:G.n<=2^29)(hm:m<=2^28)(hw:G.D.ws.length<=2^28)
 {w y z B:Option Addr} {I C J D M E P F:Nat} (qd:fD h (.agg #[.slice w I C,.slice y J D,.slice z M E,.slice B P F]) d') 
 (hk:∀h',ep JE h h'->DO h' s p (aY G l).2 (if(aY G l).1=0 then d' else d) (if(aY G l).1=0 then L' else L)->k (.zI (aY G l).1) h'):
 Ct 52 [.zP s,.slice b m c,.agg #[.slice w I C,.slice y J D,.slice z M E,.slice B P F,L'.1,L'.2.1,L'.2.2.1,L'.2.2.2]] h k:=by
 obtain⟨A,hA⟩:=Ar.ex;obtain⟨g,x,qs,ql,qk,qx⟩:=q.out;obtain⟨v5,v6,v7,v8⟩:=L;obtain⟨w5,w6,w7,w8⟩:=L';refine oE A (aj fZB.aw fZB.bz) Tryz.func52 rfl (by kernel_rfl) ?_;cbv;intro sc h1 ab e1;have l1:Le h h1:=zqs e1 ab
 have g1:h1 sc=zcL 38 [.zP s]:=zqt e1;cbv;intro u h2 nO e2;have l2:Le h1 h2:=zqs e2 nO
 have g2:h2 u=zcL 150 [.slice w I C,.slice y J D,.slice z M E,.slice B P F,w5,w6,w7,w8]:=zqt e2;cbv;intro i h3 Q e3;have l3:Le h2 h3:=zqs e3 Q
 have g3:h3 i=zcL 33 [.zI 0]:=zqt e3;have N:=(l1.trans l2).trans l3;clear e1 e2 e3;have r:=l3 _ _ (l2 _ _ g1);have S:=l3 _ _ g2;have O:=N _ _ qs.out;have X:=qk.le N;have Ow:=ql.lt (N.t _);have JS:=qx.le N;cbv;refine cy r ?_;cbv;rw[av A];refine cy O ?_;cbv;refine TE X Ow (qb.mono (N.t _)) hs hn hm hw (λH x4 Wi Eu=>?_);generalize aY G l=R at *;obtain⟨e,j⟩:=R;have Wi:oa H p j.D:=Wi;have Eu:Jw H g p (j.s:Int) (j.n:Int):=Eu;have hk:∀h',ep JE h h'->DO h' s p j (if e=0 then d' else d) (if e=0 then(w5,w6,w7,w8)else(v5,v6,v7,v8))->k (.zI e) h':=hk;have ne:∀ {bl:Nat} {cs:Array Value} {t:Nat} {fr:Nat×Nat},h3 bl=some (.cells cs t fr)->t∉cKP->H bl=some (.cells cs t fr):=λV ht=>x4 _ _ V (λ_ _ _ he=>by cases he;exact ht);have U:=ne g3 dl;have Y:=ne r dl;have W:=ne S dl;have Z:=ne O dl;have ua:=JS.lt (x4.t dl);have Rd:ep JE h H:=(N.x _).trans (x4.sup dl);have ao:sc≠i:=λe=>by rw[e,U]at Y;cases Y
 have an:u≠i:=λe=>by rw[e,U]at W;cases W
 have T:s≠i:=λe=>by rw[e,U]at Z;cases Z
 have ak:h i=none:=(l1.trans l2).none Q;have t4:=(qd.mono (N)).ls (x4.t dl);have fin:∀a,a=bO H i (.cells #[.zI e] 33 (0,0))->ep JE h a/\oa a p j.D/\Jw a g p (j.s:Int) (j.n:Int)/\yQ a x d (v5,v6,v7,v8)/\fD a (.agg #[.slice w I C,.slice y J D,.slice z M E,.slice B P F]) d'/\
  a i=some (.cells #[.zI e] 33 (0,0))/\a sc=some (.cells #[.zP s] 38 (0,0))/\a u=zcL 150 [.slice w I C,.slice y J D,.slice z M E,.slice B P F,w5,w6,w7,w8]/\cJW a s g x:=λa f=>by
  have v:ep [33] H a:=by rw[f];exact gU U dl
  refine⟨?_,Wi.lt (v.t dl),Eu.lt (v.t dl),ua.lt (v.t dl),t4.ls (v.t dl),by rw[f];exact ae,by rw[f,cH ao];exact Y,by rw[f,cH an];exact W,⟨by rw[f,cH T];exact Z⟩⟩;intro b0 o V bV;rw[f,cH (λe=>by rw[e,ak]at V;cases V)];exact Rd b0 o V bV
 clear X Ow JS Wi Eu ua g3 r S O t4 x4;cbv;refine jE U io (λa f=>?_);obtain⟨v,Dx,xT,al,vK,n,ag,K,RJ⟩:=fin a f;clear fin f;cbv;refine bJA n ag RJ K rfl (λbV=>?_) (λh0 h6 f=>?_)
 .have:=hk a v ⟨g,x,RJ,xT,Dx,by rw[if_neg bV,if_neg bV];exact al⟩;cbv;refine cy n ?_;cbv;exact this
 have x6:ep [158] a h6:=by rw[f];exact gU RJ.out dl
 have aw:h6 i=some (.cells #[.zI e] 33 (0,0)):=by rw[f,cH (Ne.symm T)];exact n
 have aq:u≠s:=λe=>by rw[e,RJ.out]at K;cases K
 have ar:h6 u=zcL 150 [.slice w I C,.slice y J D,.slice z M E,.slice B P F,w5,w6,w7,w8]:=by rw[f,cH aq];exact K
 have:=hk h6 (v.trans (x6.sup dl)) ⟨g,u,⟨by rw[f];exact ae⟩,xT.lt (x6.t dl),Dx.lt (x6.t dl),by rw[if_pos h0,if_pos h0];exact⟨_,_,_,_,_,_,_,_,_,_,_,_,ar,vK.ls (x6.t dl)⟩⟩;cbv;refine cy aw ?_;cbv;exact this
structure nT(h:ad)(s p:Nat)(G:Lg)(d:DB)(L:eO):Prop where
 out:∃b1 n1 c1 b2 n2 c2 b3 n3 c3,DO h s p G d (.zI L.next,.slice b1 n1 c1,.slice b2 n2 c2,.slice b3 n3 c3)/\vr h b1 n1 c1 b2 n2 c2 b3 n3 c3 L
theorem nT.le{s:Nat}(q:nT h s p G d L)(l:Le h h'):nT h' s p G d L:=by obtain⟨b,n,e,a,i,f,c,j,g,w,k⟩:=q.out;exact⟨b,n,e,a,i,f,c,j,g,w.lx l,k.le l⟩
theorem DO.now{s g x y:Nat}(b:cJW h s g x)(l:Jw h g p (G.s:Int) (G.n:Int))(q:oa h p G.D)(c:yQ h y d L')(u:h'=bO h s (.cells #[.zP g,.zP y] 158 (0,0))):
 DO h' s p G d L'/\ep [158] h h':=by
 have a:ep [158] h h':=by rw[u];exact gU b.out dl
 exact⟨⟨g,y,⟨by rw[u];exact ae⟩,l.lt (a.t dl),q.lt (a.t dl),c.lt (a.t dl)⟩,a⟩
theorem fQd{s:Nat}{c:DB}(q:nT h s p G d L){n o r t:Option Addr}{R u S v T E U:Nat}(qd:fD h (.agg #[.slice n R u,.slice o S v,.slice r T E,.slice t U H]) c)
 (P:∀h',ep [158] h h'->nT h' s p G c L->k (.tuple #[]) h'):
 Ct 16 [.zP s,.agg #[.slice n R u,.slice o S v,.slice r T E,.slice t U H]] h k:=by
 obtain⟨D,O,C,I,M,F,b,z,B,qw,Yr⟩:=q.out;obtain⟨g,x,V,ql,qk,qx⟩:=qw.out;obtain⟨d1,m1,e1,d2,m2,e,d3,m3,e3,d4,m4,e4,gx,-⟩:=qx.out;refine cB iXj Tryz.func16 λA hA=>?_;cbv;refine bJL qd (λh1 J Y W fK me fU jH rH jG Cd FT vH l Mm=>?_);have N:=l _ _ gx;have Q:=l _ _ V.out;cbv;repeat rw[av A]
 refine zx (cJ Q rfl) N rfl ?_;cbv;repeat (first|rw[av A] | (refine cy N ?_;cbv)|(refine zqr ?_;cbv))
 intro y a hy e;have m:Le h1 a:=zqs e hy
 have f:=l.trans m;have K:a y=zcL 150 [.slice J Y W,.slice fK me fU,.slice jH rH jG,.slice Cd FT vH,.zI L.next,.slice D O C,.slice I M F,.slice b z B]:=zqt e;have X:yQ a y c (.zI L.next,.slice D O C,.slice I M F,.slice b z B):=⟨_,_,_,_,_,_,_,_,_,_,_,_,K,Mm.ls (m.t _)⟩;have fin:∀h',h'=bO a s (.cells #[.zP g,.zP y] 158 (0,0))->k (.tuple #[]) h':=λh' j=>by
  obtain⟨w,Z⟩:=DO.now ⟨f _ _ V.out⟩ (ql.lt (f.t _)) (qk.le f) X j;exact P h' ((f.x _).trans Z) ⟨D,O,C,I,M,F,b,z,B,w,(Yr.le f).ls (Z.t dl)⟩
 have i:=m _ _ Q;clear P e X;cbv;repeat rw[av A]
 refine Ah i rfl (cJ (x:=.slice J Y W) K rfl) (λh' j=>?_);have:=fin h' j;clear fin;cbv;exact this
def lH(G:Lg)(d:DB)(L:eO)(s:Int):Int×Int×Lg×DB×eO:=
 if(bQ d s).2.2≠0 then(0,(bQ d s).2.2,G,d,L)
 else if(bQ d s).2.1.length=0 then(-1,0,G,(bQ d s).1,L)
 else if(aY G (iU ⟨L.next,(bQ d s).2.1⟩ (eZ L (bQ d s).2.1))).1=0 then(L.next,0,(aY G (iU ⟨L.next,(bQ d s).2.1⟩ (eZ L (bQ d s).2.1))).2,(bQ d s).1,eZ L (bQ d s).2.1)
 else(0,(aY G (iU ⟨L.next,(bQ d s).2.1⟩ (eZ L (bQ d s).2.1))).1,(aY G (iU ⟨L.next,(bQ d s).2.1⟩ (eZ L (bQ d s).2.1))).2,(cA d s).1,L)
theorem TB{s:Nat}(q:nT h s p G d L)(e:Int)(ok:sW n d)(CQ:n<2^18)(lb:xK L)(qu:(bQ d e).2.1.length<=255)(Y:∀c∈(bQ d e).2.1,yT c)
 (hs:G.s<=2^29) (hn:G.n<=2^29) (hw:G.D.ws.length<=2^28) {W:Int×Int×Lg×DB×eO} (b:lH G d L e=W) 
 (m:∀h',ep JE h h'->nT h' s p W.2.2.1 W.2.2.2.1 W.2.2.2.2->k (.tuple #[.zI W.1,.zI W.2.1]) h'):
 Ct 17 [.zP s,.zI e] h k:=by
 obtain⟨D,O,j,i,M,F,f,l,B,qw,Yr⟩:=q.out;obtain⟨g,x,qs,ql,qk,qx⟩:=qw.out;obtain⟨d1,m1,e1,d2,m2,e2,d3,m3,e3,d4,m4,e4,gx,qd⟩:=qx.out;unfold lH at b;obtain⟨a,I,r,z⟩:=L;obtain⟨C,hC⟩:∃C,bQ d e=C:=⟨_,rfl⟩;rw[hC]at b qu Y;obtain⟨P,cs,ce⟩:=C;have b:(if ce≠0 then((0,ce,G,d,⟨a,I,r,z⟩):Int×Int×Lg×DB×eO)
  else if cs.length=0 then(-1,0,G,P,⟨a,I,r,z⟩)
  else if(aY G (iU ⟨a,cs⟩ (eZ ⟨a,I,r,z⟩ cs))).1=0 then(a,0,(aY G (iU ⟨a,cs⟩ (eZ ⟨a,I,r,z⟩ cs))).2,P,eZ ⟨a,I,r,z⟩ cs)
  else(0,(aY G (iU ⟨a,cs⟩ (eZ ⟨a,I,r,z⟩ cs))).1,(aY G (iU ⟨a,cs⟩ (eZ ⟨a,I,r,z⟩ cs))).2,(cA d e).1,⟨a,I,r,z⟩))=W:=b
 have qu:cs.length<=255:=qu;have Y:∀c∈cs,yT c:=Y;have gx:h x=zcL 150 [.slice d1 m1 e1,.slice d2 m2 e2,.slice d3 m3 e3,.slice d4 m4 e4,.zI a,.slice D O j,.slice i M F,.slice f l B]:=gx;refine cB iXi Tryz.func17 λA hA=>?_;cbv;rw[av A];refine zx (cJ qs.out rfl) gx rfl ?_;cbv;rw[av A];refine cy gx ?_;cbv;refine VC qd ok CQ e hC (λh1 S V T b2 n2 c2 b3 n3 c3 b4 n4 c4 b5 n5 c5 N Mm J=>?_);have Mm:fD h1 (.agg #[.slice S V T,.slice b2 n2 c2,.slice b3 n3 c3,.slice b4 n4 c4]) P:=Mm;have J:Sl 161 bD h1 (.slice b5 n5 c5) cs:=J;have Na:n5=cs.length:=J.len;have q1:=q.le N;have Nq:=N _ _ gx;have aw:=N _ _ qs.out;have fe:A .aQ .neq ce 0=decide (ce≠0):=aJ A ..;have fl:A .aQ .eql (A .nat n5) 0=decide (cs.length=0):=by rw[au A,hA.nat];exact decide_eq_decide.2 (by show(n5:Int)=0↔_;omega)
 cbv;rw[fe];by_cases hc:ce≠0
 .rw[if_pos hc]at b;subst b;have:=m h1 (N.x _) q1;rw[kS hc];clear m;cbv;exact this
 rw[if_neg hc]at b;rw[kQW hc];clear fe hC;cbv;rw[fl];by_cases Kx:cs.length=0
 .rw[if_pos Kx]at b;subst b;rw[kS Kx];cbv;repeat (first|rw[av A] | (refine cy Nq ?_;cbv)|(refine zqr ?_;cbv))
  intro y U hy e2;have u:Le h1 U:=zqs e2 hy
  have E:=N.trans u;have gy:U y=zcL 150 [.slice S V T,.slice b2 n2 c2,.slice b3 n3 c3,.slice b4 n4 c4,.zI a,.slice D O j,.slice i M F,.slice f l B]:=zqt e2;have qy:yQ U y P (.zI a,.slice D O j,.slice i M F,.slice f l B):=⟨_,_,_,_,_,_,_,_,_,_,_,_,gy,Mm.ls (u.t _)⟩;have fin:∀h',h'=bO U s (.cells #[.zP g,.zP y] 158 (0,0))->k (.tuple #[.zI (-1),.zI 0]) h':=λh' H=>by
   obtain⟨w,x6⟩:=DO.now ⟨E _ _ qs.out⟩ (ql.lt (E.t _)) (qk.le E) qy H;exact m h' ((E.x _).trans (x6.sup dl)) ⟨D,O,j,i,M,F,f,l,B,w,(Yr.le E).ls (x6.t dl)⟩
  have az:=u _ _ aw;clear m e2 qy;cbv;repeat rw[av A]
  refine Ah az rfl (cJ (x:=.slice S V T) gy rfl) (λh' H=>?_);have:=fin h' H;clear fin;cbv;exact this
 rw[if_neg Kx]at b;rw[kQW Kx];cbv;repeat (first|rw[av A] | (refine cy Nq ?_;cbv)|(refine zqr ?_;cbv))
 obtain⟨L',hL⟩:∃L',eZ ⟨a,I,r,z⟩ cs=L':=⟨_,rfl⟩;have ar:L'.dq.length<=2^20:=by
  have U:r.length<=2^16:=lb.n2;rw[<-hL];unfold eZ dp;split
  .show(r++_).length<=_;rw[kXy,kXm];omega
  show r.length<=_;omega
 rw[hL]at b;refine bJN (Yr.le N) J lb ⟨by show cs.length<=2^30;omega,Y⟩ hL (λU b6 n6 c6 b7 n7 c7 b8 n8 c8 b9 c9 u K ak=>?_);have an:=Mm.ls (u.t _);have E:=N.trans u;have q2:=q1.le u;have Np:=u _ _ Nq;obtain⟨Pu,RW,yP,ab⟩:=L';cbv;refine cJS ak K Y qu ar (λh3 rb rn rc l3 qr Bj=>?_);have nN:=E.trans l3;have Ev:=an.ls (l3.t _);have al:=K.le l3;have q3:=qw.lx nN;have Cc:=l3 _ _ Np;have Z:=Yr.le nN;generalize iU ⟨a,cs⟩ ⟨Pu,RW,yP,ab⟩=rec at *;cbv;refine bJy q3 qr.sl hs hn ip hw Ev (L':=(.zI Pu,.slice b6 n6 c6,.slice b7 n7 c7,.slice b8 n8 c8)) (λh4 x4 X=>?_);have ax:=al.ls (x4.t dl);have aq:=Z.ls (x4.t dl);have ne:∀ {bl:Nat} {cs:Array Value} {t:Nat} {fr:Nat×Nat},h3 bl=some (.cells cs t fr)->t∉JE->h4 bl=some (.cells cs t fr):=λhb ht=>x4 _ _ hb (λ_ _ _ he=>by cases he;exact ht);have uj:=ne Cc dl;have ao:=(qd.mono nN).ls (x4.t dl);have Rd:ep JE h h4:=(nN.x _).trans x4;generalize aY G rec=R at *;obtain⟨v,RG⟩:=R;have X:DO h4 s p RG (if v=0 then P else d) (if v=0 then(.zI Pu,.slice b6 n6 c6,.slice b7 n7 c7,.slice b8 n8 c8)else(.zI a,.slice D O j,.slice i M F,.slice f l B)):=X;have b:(if v=0 then((a,0,RG,P,⟨Pu,RW,yP,ab⟩):Int×Int×Lg×DB×eO)else(0,v,RG,(cA d e).1,⟨a,I,r,z⟩))=W:=b;have fr:A .aQ .neq v 0=decide (v≠0):=aJ A ..;clear ak K al q2 q3 an Ev qr Np Cc ne Z;cbv;rw[fr];by_cases o:v=0
 .rw[if_pos o]at b;rw[if_pos o,if_pos o]at X;subst b;rw[kQW (λg=>g o)];have:=m h4 Rd ⟨_,_,_,_,_,_,_,_,_,X,ax⟩;clear m;cbv;exact this
 rw[if_neg o]at b;rw[if_neg o,if_neg o]at X;subst b;rw[kS o];obtain⟨g',x',ag,Eu,Wi,-⟩:=X.out;cbv;repeat (first|rw[av A] | (refine cy uj ?_;cbv)|(refine zqr ?_;cbv))
 refine wu ao ok CQ e rfl (λh5 S V T b2 n2 c2 b3 n3 c3 b4 n4 c4 l5 vK=>?_);generalize cA d e=RB at *;obtain⟨RD,aB⟩:=RB;have Jd:=l5 _ _ uj;cbv;repeat (first|rw[av A] | (refine cy Jd ?_;cbv)|(refine zqr ?_;cbv))
 intro y h6 hy e6;have l6:Le h5 h6:=zqs e6 hy
 have Q:=l5.trans l6;have gy:h6 y=zcL 150 [.slice S V T,.slice b2 n2 c2,.slice b3 n3 c3,.slice b4 n4 c4,.zI a,.slice D O j,.slice i M F,.slice f l B]:=zqt e6;have qy:yQ h6 y RD (.zI a,.slice D O j,.slice i M F,.slice f l B):=⟨_,_,_,_,_,_,_,_,_,_,_,_,gy,vK.ls (l6.t _)⟩;have fin:∀h',h'=bO h6 s (.cells #[.zP g',.zP y] 158 (0,0))->k (.tuple #[.zI 0,.zI v]) h':=λh' H=>by
  obtain⟨w,x6⟩:=DO.now ⟨Q _ _ ag.out⟩ (Eu.lt (Q.t _)) (Wi.le Q) qy H;exact m h' (Rd.trans ((Q.x _).trans (x6.sup dl))) ⟨D,O,j,i,M,F,f,l,B,w,(aq.le Q).ls (x6.t dl)⟩
 have aA:=Q _ _ ag.out;clear m e6 qy;cbv;repeat rw[av A]
 refine Ah aA rfl (cJ (x:=.slice S V T) gy rfl) (λh' H=>?_);have:=fin h' H;clear fin;cbv;exact this
theorem fF(x:UInt8)(l:Bs):aR 1 (some (x::l))=(x.toNat,some l):=by
 have h:fw 1 (some (x::l))=([x],some l):=by show(if 1<=(x::l).length then((x::l).take 1,some ((x::l).drop 1))else([],none))=_;rw[if_pos io];rfl
 unfold aR;rw[h];show(nL [x],some l)=_;have:nL [x]=x.toNat:=by simp[nL]
 rw[this]
theorem Ty{s t:Bs}(qr:pV h r p false)(qp:gR h p (some (s++t))){g:Nat->Int}(hg:hl g=aT s)(L:s.length=32)
 (hk:∀h',Kp [r,p] h h'->pV h' r p false->gR h' p (some t)->k (.tuple #[]) h'):
 Ct 266 [.zP r,.agg (hl g).toArray] h k:=by
 refine cB eZx Tryz.func266 λA hA=>?_;cbv;intro a l M e1;have F:Le h l:=zqs e1 M
 have g1:l a=zcL 100 (hl g):=zqt e1;have nr:a≠r:=λe=>by
  obtain⟨d,g,-⟩:=qr.out;rw[e,g]at M;cases M
 have np:a≠p:=λe=>by
  obtain⟨rr,q1,-⟩:=qp.out;obtain⟨bb,n,c,d,g,-⟩:=q1.out;rw[e,g]at M;cases M
 clear e1;obtain⟨J,H⟩:∃J:Nat->Int->ad->Prop,∀w z h',J w z h'=(∃i,bg z i/\w=32-i/\i<=32/\Kp [r,p] l h'/\pV h' r p false/\gR h' p (some (s.drop i++t))/\h' a=zcL 100 (hl g)):=⟨_,λ_ _ _=>rfl⟩;have O:J 32 0 l:=by rw[H];exact⟨0,⟨rfl⟩,rfl,ip,Kp.refl _ _,qr.le F,qp.le F,g1⟩
 cbv;refine ba.gz (G:=Int) (λz=>[(5,.v (.zI z))]) (λ_=>[]) (λw z h'=>J w z h') 32 0 O ?_
 intro w z V Y;rw[H]at Y;cbv;obtain⟨i,m,hw,hi,k2,C,D,S⟩:=Y;have fl:A .aQ .lss z 32=decide (i<32):=by rw[aV A,m.eq];exact decide_eq_decide.2 ip
 rw[fl];by_cases y:i<32
 .rw[kS y];obtain⟨x,hx⟩:=cK s i;have hd:s.drop i++t=x::(s.drop (i+1)++t):=by rw[kQP (ip:i<s.length)];have:s[i]'ip=x:=(HH.1 hx).2;rw[this];rfl
  rw[hd]at D;obtain⟨dr,v,-⟩:=C.out;cbv;repeat (first|rw[av A] | (refine cy v ?_;cbv)|(refine zqr ?_;cbv))
  refine⟨m.ix (len:=32) y,?_⟩;cbv;repeat (first|rw[av A] | (refine cy v ?_;cbv)|(refine zqr ?_;cbv))
  have Q:Sl 100 cD V (.slice (zsA a) 32 32) s:=kG S hg L;refine Q.load hx m.eq (λcs f=>?_);have f:cs=[.int .u8 (x.toNat:Int)]:=f;subst f;have R:=fF x (s.drop (i+1)++t);obtain⟨j,K⟩:∃j:Int,j=(x.toNat:Int):=⟨_,rfl⟩;have Z:A .conv .i64 j=j:=by rw[hA.conv,K];have:=x.toNat_lt;exact IntWalk.i64_in _ ip
  rw[<-K];cbv;rw[Z];repeat (first|rw[av A] | (refine cy v ?_;cbv)|(refine zqr ?_;cbv))
  refine tY D (λX kx q B U=>?_);rw[R]at q U;have q:kx=j:=by rw[q,K]
  have fe:A .aQ .eql kx j=true:=by rw[au A,q];exact kS rfl
  have T:=B _ _ S (iu np);have I:pV X r p false:=C.lt (D.lt B dl);obtain⟨ab,W,-⟩:=I.out;have P:Sl 100 cD X (.slice (zsA a) 32 32) s:=kG T hg L;have aZ:32-(i+1)<w:=ip
  have N:∀h',Kp [r,p] l h'->pV h' r p false->gR h' p (some (s.drop (i+1)++t))->h' a=zcL 100 (hl g)->J (32-(i+1)) (A .aX .add .i64 z 1) h':=λh' a1 a2 a3 a4=>by
   rw[H];exact⟨i+1,m.succ (A:=A),rfl,ip,a1,a2,a3,a4⟩
  clear H O R fl;cbv;repeat (first|rw[av A] | (refine cy W ?_;cbv)|(refine zqr ?_;cbv))
  refine P.load hx m.eq (λcs f=>?_);have f:cs=[.int .u8 j]:=by rw[K];exact f
  subst f;cbv;repeat (first|rw[av A] | (refine cy W ?_;cbv)|(refine zqr ?_;cbv))
  rw[fe];refine pC I true (λh4 E qK=>?_);have Po:=U.mt (I.lk E dl);have g4:=E _ _ T (iu nr);have:=N h4 ((k2.trans (B.up io)).trans (E.up io)) qK Po g4;clear N;cbv;refine zqn (32-(i+1)) (A .aX .add .i64 z 1) aZ this
 rw[kQW y];have u:i=32:=ip
 subst u;rw[wy ip,kZA]at D;have:=hk V (λb o hb hn=>k2 b o (F _ _ hb) hn) C D;cbv;exact this
theorem LK{l:Bs}(h:l.length=n)(r:Bs):fw n (some (l++r))=(l,some r):=by
 show(if n<=(l++r).length then((l++r).take n,some ((l++r).drop n))else([],none))=_
 grind
theorem JZ{l:Bs}(h:l.length=n)(r:Bs):aR n (some (l++r))=(nL l,some r):=by unfold aR;rw[LK h]
theorem Mu(h:n<2^63)(r:Bs):aR 8 (some (cP (n:Int)++r))=(n,some r):=by rw[JZ (ck _),Sc h]
theorem jC(s:ByteArray):(jZ s).length=s.size:=kZU
theorem XP(h:s.size<65536):nL (gI s)=s.size:=by
 have a:nL (gI s)=(u8 (min s.size 65535:Nat)).toNat+256*(u8 ((min s.size 65535:Nat) / 256:Nat)).toNat:=by unfold gI;show _+256*(_+256*0)=_;rfl
 rw[a,Ci,Ci];omega
theorem AE(h:s.size<65536)(r:Bs):bq (some (dZ s++r))=(jZ s,some r):=by
 have h0:dZ s=gI s++jZ s:=by unfold dZ fX;rw[kXe (by rw[jC];omega)]
 rw[h0,kJk];unfold bq;rw[JZ (n:=2) (by rfl),XP h];exact LK (jC s) r
structure TD(c:cR):Prop where
 op:c.op=1\/c.op=2
 bXX:c.table.size<65536
 row:(gH c.row).length<65536
 parse:gJ (gH c.row)=some c.row
theorem bXS{c:cR}(qr:pV h r p false)(H:gR h p (some ((([u8 c.op]++dZ c.table)++dZ (strOf (gH c.row)))++e)))(G:TD c)
 (i:∀h' b n cc,Kp [r,p] h h'->pV h' r p false->gR h' p (some e)->Sl 45 bG h' (.slice b n cc) c.row->k (.agg #[.string c.table,.zI c.op,.slice b n cc]) h'):
 Ct 265 [.zP r] h k:=by
 obtain⟨t,a,o⟩:=c;have L:a=1\/a=2:=G.op;have ht:t.size<65536:=G.bXX;have hr:(gH o).length<65536:=G.row;have J:gJ (gH o)=some o:=G.parse;obtain⟨dr,gr,-⟩:=qr.out;have H:gR h p (some (u8 a::(dZ t++(dZ (strOf (gH o))++e)))):=gg
 have P:=fF (u8 a) (dZ t++(dZ (strOf (gH o))++e));have ak:((u8 a).toNat:Int)=a:=by rcases L with rfl|rfl<;>rfl
 have S:=AE ht (dZ (strOf (gH o))++e);have B:=AE (s:=strOf (gH o)) (by rw[Fy];exact hr) e;rw[AI]at B;have ab:strOf (jZ t)=t:=by unfold strOf jZ;simp
 refine cB eZy Tryz.func265 λA hA=>?_;cbv;repeat (first|rw[av A] | (refine cy gr ?_;cbv)|(refine zqr ?_;cbv))
 refine tY H (λh1 kx F Q R=>?_);rw[P]at F R;have F:kx=a:=gg
 subst F;have N:=qr.lt (H.lt Q dl);obtain⟨an,K,-⟩:=N.out;clear P;cbv;repeat (first|rw[av A] | (refine cy K ?_;cbv)|(refine zqr ?_;cbv))
 refine BR R (λh2 tx O T D=>?_);rw[S]at O D;have O:tx=t:=gg
 subst O;have M:=N.lt (R.lt T dl);obtain⟨al,WC,-⟩:=M.out;clear S;cbv;repeat (first|rw[av A] | (refine cy WC ?_;cbv)|(refine zqr ?_;cbv))
 refine BR D (λh3 I d V U=>?_);rw[B]at d U;have d:I=strOf (gH o):=d;have ud:=M.lt (D.lt V dl);have w:=((Q.trans T).trans V);have HJ:I.size<=2^40:=by rw[d,Fy];omega
 have KZ:jZ I=gH o:=by rw[d,AI]
 clear B d;cbv;refine xQ HJ (λnb cb mb h4 ag eM l4 Y=>?_);rw[KZ]at Y;cbv;refine bXC Y (λX=>by rw[J]at X;cases X) (λrr h5 m E q Z l5 q5 Na=>?_);rw[J]at Z;cases Z;have g:=l4.trans l5;have l:=ud.le g;have JT:=U.le g;have W:A .aQ .eql 0 0=true:=by rw[au A];rfl
 have u:A .aQ .eql 1 1=true:=by rw[au A];rfl
 have v:A .aQ .eql 2 1=false:=by rw[au A];rfl
 have x:A .aQ .eql 2 2=true:=by rw[au A];rfl
 have fin:∀h',Kp [r] h5 h'->pV h' r p (false|| !true)->gR h' p (some e)/\Sl 45 bG h' (.slice m E q) o/\Kp [r,p] h h':=λh' C _=>
  ⟨JT.mt (l.lk C dl),q5.mono (l.lk C dl),((w.up io).trans (g.kp _)).trans (C.up io)⟩
 rcases L with rfl|rfl
 .cbv;rw[W];cbv;rw[u];cbv;refine pC l true (λf z y=>?_);obtain⟨a1,a2,j⟩:=fin f z y;have:=i f m E q j y a1 a2;clear i fin;cbv;exact this
 cbv;rw[W];cbv;rw[v];cbv;rw[x];cbv;refine pC l true (λf z y=>?_);obtain⟨a1,a2,j⟩:=fin f z y;have:=i f m E q j y a1 a2;clear i fin;cbv;exact this
structure QZ(t:bS)(c:cR)(t':bS):Prop where
 eq:HR t c=(t',true)
 len:c.op≠1->c.row.length=t.S.cols.length/\0<=t.S.key/\t.S.key<(c.row.length:Int)
 rows:t.rows.length<=200
theorem cKn{nb:Nat}{b2 b3 b4 rb:Option Addr}{f n2 c2 n3 c3 n4 c4 rc i:Nat}{T:List bS}{d:ByteArray}{q:Int}{a:Row}(o:dt 61 bT h nb c1 T)(fG:f=T.length)(qr:Sl 45 bG h (.slice rb H rc) a){t t':bS}(ht:T[i]? =some t)(nG:t.S.name=d)
 (bR:∀j,j<i->∀y,T[j]? =some y->decide (y.S.name=d)=false) (jD:QZ t ⟨d,q,a⟩ t') 
 (hk:∀h',ep [61] h h'->(∀tys,61∉tys->cX tys h h')->Kp [nb] h h'->dt 61 bT h' nb c1 (T.set i t')->k (.bool true) h'):
 Ct 267 [.agg #[.slice (zsA nb) f c1,.slice b2 n2 c2,.slice b3 n3 c3,.slice b4 n4 c4],.agg #[.string d,.zI q,.slice rb H rc]] h k:=by
 obtain⟨A,E⟩:=Ar.ex;have qs:=o.sl fG;obtain⟨lG,gQ⟩:=qs.bound;have ic:=(HH.1 ht).1;have an:A .aQ .eql q 1=decide (q=1):=au A ..;obtain⟨J,bH⟩:∃J:Nat->Int->ad->Prop,∀w z h',J w z h'=(∃j,bg z j/\w=f-j/\j<=i/\h'=h):=⟨_,λ_ _ _=>rfl⟩;have dP:J f 0 h:=by rw[bH];exact⟨0,⟨rfl⟩,rfl,ip,rfl⟩
 refine kh eZw A Tryz.func267 ?_;cbv;refine ba.gz (G:=Int) (λz=>[(14,.v (.zI z))]) (λ_=>[(2,[.slice (zsA nb) f c1,.slice b2 n2 c2,.slice b3 n3 c3,.slice b4 n4 c4]),(3,[.string d,.zI q,.slice rb H rc])]) (λw z h'=>J w z h') f 0 dP ?_
 intro w z h2 hI;rw[bH]at hI;cbv;obtain⟨j,W,hw,hj,rfl⟩:=hI;have fl:A .aQ .lss z (A .nat f)=true:=by rw[aV A,W.eq,E.nat];exact kS (by show(j:Int)<(f:Int);omega)
 have ix:=W.ix (len:=f) ip;rw[fl];obtain⟨y,hy⟩:=cK T j;cbv;refine⟨⟨rfl,ix⟩,?_⟩;cbv;refine qs.load hy W.eq (λcs p=>?_);by_cases mU:j<i
 .have bV:=bR j mU y hy;have aZ:f-(j+1)<w:=ip
  have cm:J (f-(j+1)) (A .aX .add .i64 z 1) h2:=by rw[bH];exact⟨j+1,W.succ (A:=A),rfl,ip,rfl⟩
  obtain⟨sb,sn,sc,pk,oL,pj,rfl,aq,q4⟩:=p;have fs:A .lu .neq y.S.name d=true:=by have h1:=eV A y.S.name d;rw[E.lu]at h1 |-;rw[bV]at h1;have h2:Sx.lu .neq y.S.name d= !Sx.lu .eql y.S.name d:=rfl;rw[h2,h1];rfl
  generalize y.S.name=yn at *;generalize y.S.key=yk at *;generalize y.S.only=yo at *;cbv;rw[fs];cbv;refine zqn (f-(j+1)) (A .aX .add .i64 z 1) aZ cm
 have Wv:j=i:=ip
 subst Wv;rw[ht]at hy;cases hy;have ss:A .lu .neq d d=false:=by rw[E.lu];simp[Sx.lu]
 have dI:=W.eq;obtain⟨⟨n,g,tk,s⟩,x⟩:=t;have nG:n=d:=nG;subst nG;obtain⟨sb,sn,sc,pk,oL,pj,p,B,q4⟩:=p;have p:cs=[.string n,.slice sb sn sc,.zI tk,.bool s,.slice pk oL pj]:=p;subst p;have al:=q4.len;have ao:x.length<=200:=jD.rows;have R:oL<=2^37:=by have:oL=x.length:=al;omega
 have Q:=jD.eq;have ag:=jD.len;clear jD bH dP fl;cbv;rw[ss];cbv;rw[an];by_cases I:q=1
 .rw[KF (c:=⟨n,q,a⟩) I]at Q;rw[kS I];cbv;refine Yv B q4 qr R (λO y1 m1 k1 y2 m2 k2 L N l r1 r2 F=>?_);have F:(⟨⟨⟨n,g,tk,s⟩,L⟩,N⟩:bS×Int)=bL ⟨⟨n,g,tk,s⟩,x⟩ a:=F;have Q:((bL ⟨⟨n,g,tk,s⟩,x⟩ a).1,decide ((bL ⟨⟨n,g,tk,s⟩,x⟩ a).2=0))=(t',true):=Q;rw[<-F]at Q;have K:(⟨⟨n,g,tk,s⟩,L⟩:bS)=t':=congrArg Prod.fst Q;have rL:N=0:=kZr (congrArg Prod.snd Q);subst rL;have fe:A .aQ .eql 0 0=true:=by rw[au A];rfl
  have rT:bT.R O [.string n,.slice y1 m1 k1,.zI tk,.bool s,.slice y2 m2 k2] t':=by rw[<-K];exact⟨_,_,_,_,_,_,rfl,r1,r2⟩
  clear F Q K;cbv;repeat (first|rw[av A] | (refine zqr ?_;cbv))
  refine⟨⟨rfl,ix⟩,?_⟩;cbv;refine(o.mono (l.t _)).setAt dl ic dI rfl rT (λP Y t4 o4=>?_);have x4:ep [61] O P:=Y.x (λb U oo V=>by
   simp only[kXK]at U;subst U;obtain⟨c,hc,-⟩:=(o.mono (l.t _)).out;rw[hc]at V;cases V;exact⟨_,_,_,rfl,dl⟩)
  have:=hk P ((l.x _).trans x4) (λtys e=>(l.t tys).trans (t4 tys e)) ((l.kp _).trans Y) o4;cbv;rw[fe];exact this
 obtain⟨qu,C,S⟩:=ag I;rw[kQW I];have ak:s=false:=by
  cases s with
  |false=>rfl
  |true=>rw[aQE (c:=⟨n,q,a⟩) I rfl]at Q;cases Q
 subst ak;have C:0<=tk:=C;have S:tk<(a.length:Int):=S;have qu:a.length=g.length:=qu;have Bj:H=a.length:=qr.len;have Wr:sn=g.length:=B.len;have M:rb.isSome=true/\0<=tk/\tk<(H:Int):=⟨qr.bu (Nat.lt_of_lt_of_eq (Int.ofNat_lt.1 (Int.lt_of_le_of_lt C S)) Bj.symm),C,by rw[Bj];exact S⟩;have Ko:tk=(tk.toNat:Int):=(Int.toNat_of_nonneg C).symm;have f1:A .not false=true:=by rw[E.not];rfl
 have f2:A .aQ .eql (A .nat H) (A .nat sn)=true:=by rw[au A,E.nat,Bj,Wr,qu];exact kS rfl
 have f3:A .aQ .geq tk 0=true:=by rw[cF A];exact kS C
 have f4:A .aQ .lss tk (A .nat H)=true:=by rw[aV A,E.nat,Bj];exact kS S
 cbv;rw[f1];cbv;rw[f2];cbv;rw[f3];cbv;rw[f4];cbv;obtain⟨v,ab,X,-⟩:=YZ (r:=a) C S;have Z:=aQD (t:=⟨⟨n,g,tk,false⟩,x⟩) (c:=⟨n,q,a⟩) I rfl (λmw=>by
  have mw:tk>=(a.length:Int):=mw;exact Int.not_le.2 S mw) (D:=bE ⟨⟨n,g,tk,false⟩,x⟩ v) (by rw[<-X])
 rw[Z]at Q;obtain⟨vk,vn,vs⟩:=v;clear Z X f1 f2 f3 f4;refine⟨M,?_⟩;cbv;refine qr.load ab Ko (λcs p=>?_);have p:cs=[.zI vk,.zI vn,.string vs]:=p;subst p;cbv;refine Ro B q4 R ⟨vk,vn,vs⟩ (λO y1 m1 k1 y2 m2 k2 y3 m3 k3 L R2 N l r1 r2 r3 F=>?_);rw[<-F]at Q;have m:(if N=0/\kY R2 a=true then((⟨⟨n,g,tk,false⟩,L⟩:bS),true)else(⟨⟨n,g,tk,false⟩,x⟩,false))=(t',true):=Q;have u:N=0/\kY R2 a=true:=Decidable.byContradiction λhn=>by rw[if_neg hn]at m;cases m
 rw[if_pos u]at m;clear Q F;obtain⟨rL,iK⟩:=u;subst rL;have K:(⟨⟨n,g,tk,false⟩,L⟩:bS)=t':=congrArg Prod.fst m;have fe:A .aQ .eql 0 0=true:=by rw[au A];rfl
 have OQ:A .not true=false:=by rw[E.not];rfl
 have rT:bT.R O [.string n,.slice y1 m1 k1,.zI tk,.bool false,.slice y2 m2 k2] t':=by rw[<-K];exact⟨_,_,_,_,_,_,rfl,r1,r2⟩
 have ud:=qr.mono (l.t _);clear m K;cbv;repeat (first|rw[av A] | (refine zqr ?_;cbv)|(refine⟨M,?_⟩;cbv))
 rw[fe];cbv;refine bJm r3 ud ?_;rw[iK];cbv;rw[OQ];cbv;refine⟨⟨rfl,ix⟩,?_⟩;cbv;refine(o.mono (l.t _)).setAt dl ic dI rfl rT (λP Y t4 o4=>?_);have x4:ep [61] O P:=Y.x (λb U oo V=>by
  simp only[kXK]at U;subst U;obtain⟨c,hc,-⟩:=(o.mono (l.t _)).out;rw[hc]at V;cases V;exact⟨_,_,_,rfl,dl⟩)
 have:=hk P ((l.x _).trans x4) (λtys e=>(l.t tys).trans (t4 tys e)) ((l.kp _).trans Y) o4;cbv;rw[fe];exact this
theorem UF(bs:List nV)(b:nV):cV (bs++[b])=(b.n,eo b,0):=by unfold cV;rw[List.getLast?_append];simp
theorem Yc{e:Bool}{s:St}(l:pV h r p e)(j:gR h p s)(k:Kp [r,p] h h'):ep [299,411] h h':=by
 obtain⟨d,g,-⟩:=l.out;obtain⟨rr,q,-⟩:=j.out;obtain⟨bb,n,c,m,i,-⟩:=q.out;exact k.x (λb f o a=>by
  simp only[kXB,kQK,or_false]at f;rcases f with rfl|rfl
  .rw[g]at a;cases a;exact⟨_,_,_,rfl,dl⟩
  rw[i]at a;cases a;exact⟨_,_,_,rfl,dl⟩)
theorem cKm{x:Nat}{v w y z e1 g i:Option Addr}{B I D J E L F d j l f:Nat}{a:Int}{o:List mQ}{bs:List nV}
 (gx:h x=zcL 150 [.slice v H B,.slice w I D,.slice y J E,.slice z L F,.zI a,.slice e1 m d,.slice g j c,.slice i l f])
 (ql:vr h e1 m d g j c i l f ⟨a,o,bs,ts⟩) (hB:xK ⟨a,o,bs,ts⟩) (Bn:o.length≠0) (qr:pV h r p false)  (qp:gR h p (some (cP ((bs.length+1:Nat):Int)++(eo (jQ o bs)++e)))) 
 (t:∀h' e1 m d g j c i l f,Kp [x,r,p] h h'->h' x=zcL 150 [.slice v H B,.slice w I D,.slice y J E,.slice z L F,.zI a,.slice e1 m d,.slice g j c,.slice i l f]->
  vr h' e1 m d g j c i l f (dp ⟨a,o,bs,ts⟩)->pV h' r p false->gR h' p (some e)->k (.tuple #[]) h'):
 Ct 146 [.zP x,.zP r] h k:=by
 obtain⟨dr,gr,-⟩:=qr.out;have gQ:bs.length<=2^16:=hB.n2;have nI:=Mu (n:=bs.length+1) ip (eo (jQ o bs)++e);have hE:mZ ⟨a,o,bs,ts⟩=(⟨a,[],bs++[jQ o bs],ts++[o]⟩,0):=by unfold mZ;rw[if_neg Bn];rfl
 have Q:cV (bs++[jQ o bs])=(((bs.length+1:Nat):Int),eo (jQ o bs),0):=UF _ _;have Hu:(eo (jQ o bs)).length=32:=gu _;have Eh:(bs++[jQ o bs]).length<=2^20:=by rw[kXy,kXm];omega
 have t:∀h' e1 m d g j c i l f,Kp [x,r,p] h h'->h' x=zcL 150 [.slice v H B,.slice w I D,.slice y J E,.slice z L F,.zI a,.slice e1 m d,.slice g j c,.slice i l f]->
  vr h' e1 m d g j c i l f ⟨a,[],bs++[jQ o bs],ts++[o]⟩->pV h' r p false->gR h' p (some e)->k (.tuple #[]) h':=t
 obtain⟨X,C⟩:∃X:Int,X=((bs.length+1:Nat):Int):=⟨_,rfl⟩;rw[<-C]at Q;have Gi:IntKind.i64.wrap ((bs.length+1:Nat):Int)=X:=by rw[C];exact IntWalk.i64_in _ ip
 obtain⟨N,q⟩:∃N,N=bs++[jQ o bs]:=⟨_,rfl⟩;rw[<-q]at hE Q Eh t;clear q;generalize eo (jQ o bs)=said at *;refine cB eKx Tryz.func146 λA hA=>?_;cbv;repeat (first|rw[av A] | (refine cy gr ?_;cbv)|(refine zqr ?_;cbv))
 refine bXG qp (λh1 kx M k1 R=>?_);rw[nI]at M R;have M:kx=X:=by rw[M];exact Gi
 have R:gR h1 p (some (said++e)):=R;subst M;have t1:=qp.lt k1 (tys:=150::299::kZ) dl;have Nq:=t1 _ _ _ _ dl gx;have FL:=qr.lt (t1.sub);have Z:=ql.ls (t1.sub);obtain⟨al,ak,-⟩:=FL.out;clear nI C Gi;cbv;repeat (first|rw[av A] | (refine cy Nq ?_;cbv)|(refine zqr ?_;cbv))
 refine Tv Z hB hE (λh2 P o1 U S o2 V T o3 W G K=>?_);have K:vr h2 P o1 U S o2 V T o3 W ⟨a,[],N,ts++[o]⟩:=K;have Cw:=FL.le G;have DU:=R.le G;have Np:=G _ _ Nq;have mW:A .aQ .eql 0 0=true:=by rw[au A];rfl
 have ag:A .aQ .eql kx kx=true:=by rw[au A];exact kS rfl
 cbv;rw[mW];refine pC Cw true (λh3 k3 ud=>?_);have t3:=Cw.lk k3 (tys:=150::411::5::kZ) dl;have Cc:=t3 _ _ _ _ dl Np;have JU:=DU.mt (t3.sub);have Ow:=K.ls (t3.sub);cbv;refine Tu Ow.dq Eh (λh4 g4 u b=>?_);rw[Q]at b |-;have qK:=ud.le u;have Po:=JU.le u;have Eu:=Ow.le u;have uj:=u _ _ Cc;have b:hl g4=aT said:=b;cbv;rw[ag];refine pC qK true (λh5 k5 Al=>?_);have t5:=qK.lk k5 (tys:=150::411::5::kZ) dl;have Jd:=t5 _ _ _ _ dl uj;have JT:=Po.mt (t5.sub);have xT:=Eu.ls (t5.sub);cbv;refine Ty Al JT b Hu (λY k6 yC Yq=>?_);have t6:=(Yc Al JT k6).t (tys:=150::kZ) dl;have GH:=t6 _ _ _ _ dl Jd;have O:=xT.ls (t6.sub);have ab:Kp [x,r,p] h Y:=(k1.up io).trans ((G.kp _).trans ((k3.up io).trans ((u.kp _).trans ((k5.up io).trans (k6.up io)))));have fin:∀h',h'=bO Y x (.cells #[.slice v H B,.slice w I D,.slice y J E,.slice z L F,.zI a,.slice P o1 U,.slice S o2 V,.slice T o3 W] 150 (0,0))->k (.tuple #[]) h':=λh' s=>by
  have x7:ep [150] Y h':=by rw[s];exact gU GH dl
  exact t h' P o1 U S o2 V T o3 W (ab.trans (by rw[s];exact Kp.set io)) (by rw[s];exact ae) (O.ls (x7.t dl)) (yC.lt (x7.t dl)) (Yq.mt (x7.t dl))
 clear t;cbv;repeat rw[av A]
 refine jE GH io (λh' s=>?_);have:=fin h' s;cbv;exact this
end Go.S
