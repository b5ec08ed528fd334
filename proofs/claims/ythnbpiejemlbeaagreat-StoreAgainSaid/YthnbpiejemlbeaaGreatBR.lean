import Derived.Test.YthnbpiejemlbeaaGreatBQ
set_option linter.all false
set_option maxRecDepth 100000
set_option maxHeartbeats 8000000
namespace Go.S
open Go.Sx Go.Proofs
variable {only:Bool}{nm:ByteArray}{d:DB}{key:Int}{G g:Lg}{cols:List jR}{P c i n p w:Nat}{b:Option Addr}{k:Value->ad->Prop}{h h' h0:ad}{L:eO}
theorem bJI(b:Bool)(a:k (.zI (BA b)) h):Ct 310 [.bool b] h k:=by
 refine cB eXJ Tryz.func310 λA c=>?_;cbv;cases b with
 |false=>exact a
 |true=>exact a
theorem fQg(q:Sl 202 bJ h (.slice b n c) cols)(hn:n<=2^16)
 (hk:∀h' r n' c',Le h h'->bA 5 cD h h' (.slice r n' c') (vu ⟨nm,cols,key,only⟩)->k (.slice r n' c') h'):
 Ct 217 [.agg #[.string nm,.slice b n c,.zI key,.bool only]] h k:=by
 obtain⟨A,hA⟩:=Ar.ex;have f:=q.len;have Z:A .nat n=(cols.length:Int):=by rw[hA.nat,f];rfl
 obtain⟨d,lO⟩:∃d,d=dZ nm++[u8 (cols.length:Int)]:=⟨_,rfl⟩;have ag:d.length<=65538:=by grind [gA]
 have hS:vu ⟨nm,cols,key,only⟩=(d++(cols.map lp).flatten++cP key)++[u8 (BA only)]:=by rw[lO];unfold vu;simp[dZ,pK]
 rw[hS]at hk;clear hS;have W:([]++dZ nm)++[u8 (A .nat n)]=d:=gg
 obtain⟨J,H⟩:∃J:Nat->((Option Addr×Nat×Nat)×Int)->ad->Prop,∀w g h',J w g h'=(∃i:Nat,bg g.2 i/\w=n-i/\i<=n/\Le h h'/\bA 5 cD h h' (.slice g.1.1 g.1.2.1 g.1.2.2) (d++((cols.take i).map lp).flatten)/\(d++((cols.take i).map lp).flatten).length<=2^17*(i+1)):=⟨_,λ_ _ _=>rfl⟩;refine kh eJn A Tryz.func217 ?_;cbv;refine uT (h0:=h) (l:=[]) bA.nil (Le.refl _) ip nm (λm1 ab h1 b1 c1 k1 t1 q1=>?_);have OG:=gA nm;obtain⟨v,zV⟩:∃v,v=m1+1:=⟨_,rfl⟩;cbv;refine lS q1 k1 ip _ zV (λh2 X c2 k2 t2 S=>?_);rw[W]at S;have D:J n ((X,v,c2),0) h2:=by rw[H];exact⟨0,⟨rfl⟩,rfl,ip,k2,iu S,by simp;omega⟩
 clear W q1 S Z t1 t2;cbv;refine ba.gz (G:=(Option Addr×Nat×Nat)×Int) (λg=>[(3,.v (.slice g.1.1 g.1.2.1 g.1.2.2)),(4,.v (.zI g.2))]) (λ_=>[(1,[.string nm,.slice b n c,.zI key,.bool only])]) (λw g h'=>J w g h') n ((X,v,c2),0) D ?_
 intro w g h3 hI;rw[H]at hI;cbv;obtain⟨⟨gb,gm,gc⟩,z⟩:=g;obtain⟨i,e,hw,hi,N,s,F⟩:=hI;have e:bg z i:=e;have s:bA 5 cD h h3 (.slice gb gm gc) (d++((cols.take i).map lp).flatten):=s;have nQ:=s.sl.len;have E:A .aQ .lss z (A .nat n)=decide (i<n):=by rw[aV A,e.eq,hA.nat];grind
 rw[E];by_cases u:i<n
 .rw[kS u];obtain⟨x,hx⟩:=cK cols i;have K:=NJ x;have ZD:=gA x.name;have ix:=e.ix u;have I:b.isSome=true:=q.bu;have vd:n-(i+1)<w:=ip
  have cm:∀r m' c' h',Le h h'->bA 5 cD h h' (.slice r m' c') ((((d++((cols.take i).map lp).flatten)++dZ x.name)++[u8 x.kind])++[u8 (BA x.null)])->J (n-(i+1)) ((r,m',c'),A .aX .add .i64 z 1) h':=λr m' c' h' l' q'=>by
   rw[H];have ha:(((d++((cols.take i).map lp).flatten)++dZ x.name)++[u8 x.kind])++[u8 (BA x.null)]=d++((cols.take (i+1)).map lp).flatten:=by rw[kJG,hx];simp[lp,dZ,pK]
   have hb:d++((cols.take (i+1)).map lp).flatten=(d++((cols.take i).map lp).flatten)++lp x:=by rw[kJG,hx];simp
   refine⟨i+1,e.succ (A:=A),rfl,ip,l',?_,?_⟩
   .grind
   grind
  have yL:(d++((cols.take i).map lp).flatten).length<=2^34:=ip
  have B:=q.mono (N.t _);clear E F H D K;generalize d++((cols.take i).map lp).flatten=L at *;generalize U:x.name=xn at *;generalize P:x.kind=xk at *;generalize Q:x.null=xu at *;cbv;refine⟨⟨I,ix⟩,?_⟩;cbv;refine B.cI hx e.eq (o:=0) (m:=1) dl (λcs a=>?_);have a:cs=[.string x.name,.zI x.kind,.bool x.null]:=a;rw[U,P,Q]at a;subst a;cbv;refine⟨⟨I,ix⟩,?_⟩;cbv;refine B.cI hx e.eq (o:=1) (m:=1) dl (λcs a=>?_);have a:cs=[.string x.name,.zI x.kind,.bool x.null]:=a;rw[U,P,Q]at a;subst a;cbv;refine⟨⟨I,ix⟩,?_⟩;cbv;refine B.cI hx e.eq (o:=2) (m:=1) dl (λcs a=>?_);have a:cs=[.string x.name,.zI x.kind,.bool x.null]:=a;rw[U,P,Q]at a;subst a;cbv;refine uT s N ip xn (λt Y h4 b4 c4 O t4 T=>?_);have j:=B.mono (t4 _ dl);obtain⟨p,C⟩:∃p,p=t+1:=⟨_,rfl⟩;cbv;refine j.cI hx e.eq (o:=2) (m:=1) dl (λcs a=>?_);have a:cs=[.string x.name,.zI x.kind,.bool x.null]:=a;rw[U,P,Q]at a;subst a;cbv;refine zqr ?_;cbv;refine j.cI hx e.eq (o:=1) (m:=1) dl (λcs a=>?_);have a:cs=[.string x.name,.zI x.kind,.bool x.null]:=a;rw[U,P,Q]at a;subst a;cbv;refine zqr ?_;cbv;refine lS T O ip xk C (λh5 b5 c5 R t5 V=>?_);have M:=j.mono (t5 _ dl);cbv;refine M.cI hx e.eq (o:=2) (m:=1) dl (λcs a=>?_);have a:cs=[.string x.name,.zI x.kind,.bool x.null]:=a;rw[U,P,Q]at a;subst a;cbv;refine zqr ?_;cbv;refine bJI xu ?_;obtain⟨y,Sr⟩:∃y,y=p+1:=⟨_,rfl⟩;cbv;refine lS V R ip _ Sr (λh6 b6 c6 k6 t6 q6=>?_);have iL:=cm b6 y c6 h6 k6 q6;clear cm;cbv;refine zqn _ ((b6,y,c6),A .aX .add .i64 z 1) vd iL
 rw[kQW u];have fN:i=n:=ip
 subst fN;rw[show cols.take i=cols by rw[f];exact kXo]at s F nQ;have yL:(d++(cols.map lp).flatten).length<=2^34:=ip
 clear u H D F E;generalize d++(cols.map lp).flatten=L at *;obtain⟨t,Y⟩:∃t,t=gm+8:=⟨_,rfl⟩;cbv;refine tX s N ip key Y (λh4 b4 c4 O t4 T=>?_);cbv;refine bJI only ?_;obtain⟨p,C⟩:∃p,p=t+1:=⟨_,rfl⟩;cbv;refine lS T O ip _ C (λh5 b5 c5 R t5 V=>?_);have:=hk h5 b5 p c5 R V;cbv;exact this
theorem bXA(q:Sl 202 bJ h (.slice b n c) cols)(s:n<=2^16)
 (e:∀h' d n' c',Le h h'->bA 5 cD h h' (.slice d n' c') (eQ ⟨nm,cols,key,only⟩)->n'<=2^28->k (.slice d n' c') h'):
 Ct 95 [.agg #[.string nm,.slice b n c,.zI key,.bool only]] h k:=by
 have D:eQ ⟨nm,cols,key,only⟩=[u8 1]++dZ (strOf (vu ⟨nm,cols,key,only⟩)):=rfl;rw[D]at e;clear D;refine cB iQc Tryz.func95 λA C=>?_;cbv;refine lS (h0:=h) (l:=[]) bA.nil (Le.refl _) ip 1 (m':=1) rfl (λp i m f F a=>?_);have a:bA 5 cD h p (.slice i 1 m) [u8 1]:=a;cbv;refine fQg (q.mono (f.t _)) s (λB y E z g v=>?_);have O:=gA (strOf (vu ⟨nm,cols,key,only⟩));generalize vu ⟨nm,cols,key,only⟩=S at *;have K:=a.mono (g.t _);cbv;refine rU v.sl ?_;generalize strOf S=x at *;cbv;refine uT K (f.trans g) ip x (λu M r j o t G w=>?_);have:=e r j u o t w ip;cbv;exact this
theorem aXE(nm:ByteArray)
 (a:∀h' b n' c',Le h h'->bA 5 cD h h' (.slice b n' c') (eX nm)->n'<=2^28->k (.slice b n' c') h'):
 Ct 171 [.string nm] h k:=by
 have D:eX nm=[u8 2]++dZ nm:=rfl;rw[D]at a;clear D;have O:=gA nm;refine cB eKc Tryz.func171 λA p=>?_;cbv;refine lS (h0:=h) (l:=[]) bA.nil (Le.refl _) ip 2 (m':=1) rfl (λg c e j t q=>?_);have q:bA 5 cD h g (.slice c 1 e) [u8 2]:=q;cbv;refine uT q j ip nm (λn M i d f m r o=>?_);have:=a i d n f m o ip;cbv;exact this
theorem nU.down{a:ad}{D:Dk}(q:nU a h p D)(l:Le h0 a):nU h0 h p D:=by obtain⟨k,kc,n,f,wb,i,wc,g,o1,o2,e1,e,w,b,c,z,j,m,d⟩:=q.out;exact⟨k,kc,n,f,wb,i,wc,g,o1,o2,e1,e,w.base l,b,c,l.none z,l.none j,l.none m,l.trans d⟩
abbrev nH:ad:=λ_=>none
theorem jU(h:ad):Le nH h:=λb o a=>by cases a
theorem aJi{r:List Bs}(I:xJ g P r)(h:0<P)(s:g.s<2^60)(n:g.n<2^60):Iu g.D=(r,true)/\vO (dF g.D 0)=(g.s:Int)/\vO ((dF g.D 0).drop 8)=(g.n:Int):=by
 have hl:=Ez I h s n;have c:(dL g.D).length=jT g.D:=by unfold dL jT;rw[tP (λb a=>I.ja.pg b (kXN a)),kJb];try omega
 unfold gK at hl;rw[I.ja.dead,if_neg io]at hl;have hl:=congrArg Prod.fst hl;have hl:Ba g.D (vO (dF g.D 0)) (vO ((dF g.D 0).drop 8))=⟨g.s,g.n,r,false⟩:=hl;have M:dF g.D 0=eS (sB g.s g.n):=by unfold dF;rw[show(0:Int).toNat=0 from rfl,I.hd];rfl
 have e1:vO (eS (sB g.s g.n))=g.s:=by grind [eS,sB,EG]
 have e:vO ((eS (sB g.s g.n)).drop 8)=g.n:=by
  grind [eS,sB,cP,ck,EG]
 refine⟨?_,gg,gg⟩;rw[<-aJj c];unfold XX;rw[I.ja.dead,hl];rfl
structure yR(h:ad)(b1:Option Addr)(n1 c1:Nat)(b2:Option Addr)(n2 c2:Nat)(b3:Option Addr)(n3 c3:Nat)(L:eO):Prop where
 oO:Sl 172 eD h (.slice b1 n1 c1) L.oO
 dq:Sl 113 ek h (.slice b2 n2 c2) L.dq
 Fi:Sl 47 gN h (.slice b3 n3 c3) L.Fi
abbrev aJr:List Nat:=[172,47,113,161,45]
theorem yR.ls{a c:Option Addr}{d g e f:Nat}(q:yR h b n d a g e c i f L)(l:cX aJr h h'):yR h' b n d a g e c i f L:=
 ⟨q.oO.mono (l.sub),q.dq.mono (l.sub),q.Fi.mono (l.sub)⟩
structure sO(h0 h:ad)(t p:Nat)(G:Lg)(d:DB)(L:eO):Prop where
 out:∃lg b1 n1 c1 b2 n2 c2 b3 n3 c3 b4 n4 c4 e1 m1 d1 e2 m2 d2 e3 m3 d3,h t=zcL 197 [.zP lg,.slice b1 n1 c1,.slice b2 n2 c2,.slice b3 n3 c3,.slice b4 n4 c4,.zI L.next,.slice e1 m1 d1,.slice e2 m2 d2,.slice e3 m3 d3]/\
  Tn h0 h lg p (G.s:Int) (G.n:Int)/\nU h0 h p G.D/\RP h b1 n1 c1 b2 n2 c2 b3 n3 c3 b4 n4 c4 d/\yR h e1 m1 d1 e2 m2 d2 e3 m3 d3 L
 new:h0 t=none
abbrev gQs:List Nat:=[197,353,231,210,326,132,202,46,45,337,161,340,422,172,47,113]
theorem sO.lt{t:Nat}(q:sO h0 h t p G d L)(l:cX gQs h h')(u:Le h0 h'):sO h0 h' t p G d L:=by obtain⟨v,b,z,f,a,A,i,c,B,j,e,C,k,e1,w,m,r,x,n,s,y,o,g,H,F,E,D⟩:=q.out;exact⟨⟨v,b,z,f,a,A,i,c,B,j,e,C,k,e1,w,m,r,x,n,s,y,o,l _ _ _ _ dl g,H.lt (l.sub),F.lt (l.sub) u,E.lt (l.sub),D.ls (l.sub)⟩,q.new⟩
theorem sO.le{t:Nat}(q:sO h0 h t p G d L)(l:Le h h'):sO h0 h' t p G d L:=by obtain⟨v,b,z,f,a,A,i,c,B,j,e,C,m,e1,w,n,s,x,o,u,y,r,g,F,k,E,D⟩:=q.out;exact q.lt (l.t _) (k.base.trans l)
theorem cKa(q:nU h0 h p g.D)(I:xJ g P [])(v:0<P)(z:g.s<2^60)(y:g.n<2^60)
 (f:∀h' t,Le h h'->sO h0 h' t p g dz lz->k (.tuple #[.zP t,.zI 0]) h'):
 Ct 34 [.zP p] h k:=by
 obtain⟨A,s⟩:=Ar.ex;obtain⟨s1,s2,s3⟩:=aJi I v z y;have W:A .aQ .neq 0 0=false:=by rw[aJ A];rfl
 have Q:A .aQ .lss 0 (A .nat 0)=false:=by rw[aV A,s.nat];rfl
 refine kh iQX A Tryz.func34 ?_;cbv;refine cJZ q I.ja.dead s1 (λr j b m c l n B=>?_);rw[s2,s3]at n;have x:m=0:=B.len;subst x;cbv;rw[W];cbv;intro t a i e;have d:Le r a:=zqs e i
 have o:a t=zcL 197 [.zP j,.zN,.zN,.zN,.zN,.zI 0,.zN,.zN,.zN]:=zqt e;have:=f a t (l.trans d) ⟨⟨j,none,0,0,none,0,0,none,0,0,none,0,0,none,0,0,none,0,0,none,0,0,o,n.lt (d.t _),q.le (l.trans d),⟨Sl.nil,Sl.nil,Sl.nil,Sl.nil⟩,⟨Sl.nil,Sl.nil,Sl.nil⟩⟩,(q.base.trans l).none i⟩;clear e f;cbv;refine ba.gz (G:=Unit) (λ_=>[(8,.v (.zI 0))]) (λ_=>[]) (λw _ h'=>w=0/\h'=a) 0 () ⟨rfl,rfl⟩ ?_
 intro w g C u;cbv;obtain⟨rfl,rfl⟩:=u;rw[Q];cbv;exact this
theorem Hk{t:Nat}(q:sO h0 h t p G d L)(hl:LB G.D)(gi:d.ao.Pairwise (λa b=>dy a.S.name b.S.name<0))(K:∀t∈d.ao,t.S.name.size<=2^60)(Z:d.ao.length<=2^37){sb:Option Addr}{sn sc:Nat}(qs:Sl 202 bJ h (.slice sb sn sc) cols)
 (ZI:sn<=2^16) (hs:G.s<=64*(G.D.now.length-1)) (hn:G.n<=2^29) (hw:G.D.ws.length<=2^28) 
 (c:∀h',ep (197::aJs) h h'->sO h0 h' t p (fQ G d ⟨nm,cols,key,only⟩).2.1 (fQ G d ⟨nm,cols,key,only⟩).2.2 L->k (.zI (fQ G d ⟨nm,cols,key,only⟩).1) h'):
 Ct 37 [.zP t,.agg #[.string nm,.slice sb sn sc,.zI key,.bool only]] h k:=by
 have f:fQ G d ⟨nm,cols,key,only⟩=Hv G d (bP d ⟨nm,cols,key,only⟩) (eQ ⟨nm,cols,key,only⟩):=rfl;have Vc:=oW gi ⟨nm,cols,key,only⟩;obtain⟨n,b1,n1,c1,b2,n2,c2,b3,n3,c3,b4,n4,c4,e1,V,B,I,W,F,M,X,H,g,ql,qk,qd,qL⟩:=q.out;obtain⟨Y,op,bs,ts⟩:=L;have g:h t=zcL 197 [.zP n,.slice b1 n1 c1,.slice b2 n2 c2,.slice b3 n3 c3,.slice b4 n4 c4,.zI Y,.slice e1 V B,.slice I W F,.slice M X H]:=g;refine cB iQU Tryz.func37 λA hA=>?_;cbv;rw[av A];refine cy g ?_;cbv;refine IA qd qs Z K (D:=bP d ⟨nm,cols,key,only⟩) Vc.symm (λh3 gM wQ fW fK me fU jH rH jG Cd FT vH m E=>?_);have q3:=q.le m;have g3:=m _ _ g;have Q:=qs.mono (m.t _);generalize bP d ⟨nm,cols,key,only⟩=C at *;obtain⟨y,v⟩:=C;have E:RP h3 gM wQ fW fK me fU jH rH jG Cd FT vH y:=E;have j:A .aQ .eql v 0=decide (v=0):=au A ..;by_cases w:v=0
 .have f:fQ G d ⟨nm,cols,key,only⟩=((aY G (eQ ⟨nm,cols,key,only⟩)).1,(aY G (eQ ⟨nm,cols,key,only⟩)).2,if(aY G (eQ ⟨nm,cols,key,only⟩)).1=0 then y else d):=by rw[f];exact if_neg (λh=>h w)
  rw[f]at c;rw[kS w]at j;clear f;cbv;rw[j];cbv;rw[av A];refine cy g3 ?_;cbv;refine bXA Q ZI (λh4 rb rn rc U q4 Bj=>?_);have g4:=U _ _ g3;have z:=m.trans U;generalize eQ ⟨nm,cols,key,only⟩=rec at *;cbv;refine cy g4 ?_;cbv;refine zqr ?_;cbv;refine BU (qk.le z) hl (ql.lt (z.t _)) q4.sl hs hn Bj hw (λi r x T=>?_);have N:=r _ _ g4 (λ_ _ _ P=>gg);have vK:=(qd.lt (z.t _)).lt (r.t dl);have S:=(E.lt (U.t _)).lt (r.t dl);have JV:=(qL.ls (z.t _)).ls (r.t dl);have WS:ep (197::aJs) h i:=(z.x _).trans (r.sup dl);generalize aY G rec=R at *;obtain⟨e,u⟩:=R;have x:nU h0 i p u.D:=x;have T:Tn h0 i n p (u.s:Int) (u.n:Int):=T;have J:A .aQ .eql e 0=decide (e=0):=au A ..;by_cases P:e=0
  .subst P;have c:∀h',ep (197::aJs) h h'->sO h0 h' t p u y ⟨Y,op,bs,ts⟩->k (.zI 0) h':=c;have fin:∀h',h'=bO i t (.cells #[.zP n,.slice gM wQ fW,.slice fK me fU,.slice jH rH jG,.slice Cd FT vH,.zI Y,.slice e1 V B,.slice I W F,.slice M X H] 197 (0,0))->k (.zI 0) h':=λh' l=>by
    have s:ep [197] i h':=by rw[l];exact gU N dl
    have Ao:Le h0 h':=λb o O=>by
     rw[l,cH (λe=>by rw[e,q.new]at O;cases O)];exact x.base _ _ O
    exact c h' (WS.trans (s.sup dl)) ⟨⟨n,_,_,_,_,_,_,_,_,_,_,_,_,_,_,_,_,_,_,_,_,_,by rw[l];exact ae,T.lt (s.t dl),x.lt (s.t dl) Ao,S.lt (s.t dl),JV.ls (s.t dl)⟩,q.new⟩
   clear c q3;cbv;rw[J];cbv;repeat rw[av A]
   refine jE N io (λh6 l=>?_);have:=fin h6 l;clear fin;cbv;exact this
  have:=c i WS ⟨⟨n,b1,n1,c1,b2,n2,c2,b3,n3,c3,b4,n4,c4,e1,V,B,I,W,F,M,X,H,N,T,x,gg,JV⟩,q.new⟩;rw[kQW P]at J;clear c q3;cbv;rw[J];cbv;exact this
 have f:fQ G d ⟨nm,cols,key,only⟩=(v,G,d):=by rw[f];exact if_pos w
 rw[f]at c;rw[kQW w]at j;have:=c h3 (m.x _) q3;clear c f;cbv;rw[j];cbv;rw[j];cbv;exact this
def fR(R:List Row):Nat->List Row:=vS (λ_=>[]) 0 R
structure BT(k:Nat)(R:List Row):Prop where
 so:SO R
 lo:∀row∈R,kN row<(k:Int)
 n:R.length<=k
theorem Lx{s:ByteArray}(h:s.size<=60):dS ⟨3,0,s⟩=0:=by
 grind [dS,ij,iM]
structure We(n:Nat)(L:eO):Prop where
 nx:L.next=(n:Int)
 op:∀t∈L.oO,Ej t
 o:L.oO.length<=3
 b:L.dq.length<=n
 t:L.Fi.length<=n
theorem Yh{l:List Bs}(h:∀x∈l,x.length=32):(gW l).length=32:=by
 unfold gW;split
 .exact gu _
 .exact h _ (kXi ..)
 exact gu _
theorem Ik(id:Int)(l:List cR):(fa id l).length=32:=by unfold fa iW;refine Yh (λx hx=>?_);obtain⟨j,h,rfl⟩:=List.mem_mapIdx.1 hx;exact gu _
theorem Fj(L:eO):(kU L).length<=33:=by
 grind [kU,jz]
theorem Fh(l:Bs):(dZ (strOf l)).length<=l.length+2:=by
 unfold dZ gI fX
 grind [jC,strOf,Fy]
structure SF(G:Lg)(P k:Nat)(R:List Row)(L:eO):Prop where
 rows:BT k R
 zd:We R.length L
 out:∃rs sd sl,xJ G P rs/\xI rs sd sl/\sd rs.length=G0 (fR R)/\sl rs.length=L/\rs.length<=3+k
 fit:64+G.s<=P*64
theorem bJz(q:LB g.D)(l:Bs):LB (aY g l).2.D:=by
 unfold aY;split
 .exact q
 split
 .exact q
 split
 .exact tC q ..
 split
 .exact od (tC q ..) ..
 split
 .exact vW (od (tC q ..) ..)
 exact vW (od (tC q ..) ..)
theorem Uh(h:i<3):(eQ (aS i)).length=27/\(aR 1 (some (eQ (aS i)))).1=1/\oh (eR i) (aR 1 (some (eQ (aS i)))).2=(eR (i+1),false,some [])/\bP (eR i) (aS i)=(eR (i+1),0):=by
 have h:i=0\/i=1\/i=2:=ip
 rcases h with rfl|rfl|rfl<;>exact⟨by kernel_rfl,by kernel_rfl,by kernel_rfl,by kernel_rfl⟩
theorem Pa:∀i,i<=3->(eR i).ao.Pairwise (λa b=>dy a.S.name b.S.name<0)/\(eR i).ao.length<=8/\∀t∈(eR i).ao,t.S.name.size<=2^60
 |0,_=>⟨List.Pairwise.nil,dl,λt d=>(by cases d)⟩
 |1,_=>by grind [Rz,iQ]
 |2,_=>by
  rw[Ry];refine⟨kXu.2 ⟨λb c=>by rw[kXK.1 c];decide,kZJ ..⟩,dl,λt d=>?_⟩
  grind [iQ]
 |3,_=>by
  rw[ur];refine⟨kXu.2 ⟨λb c=>?_,kXu.2 ⟨λb c=>by rw[kXK.1 c];decide,kZJ ..⟩⟩,dl,λt d=>?_⟩
  .rcases kXB.1 c with rfl|c
   .decide
   rw[kXK.1 c];decide
  rcases kXB.1 d with rfl|d
  .exact iQ 0 dl
  grind [iQ]
 |n+4,h=>ip
theorem Oa{a:Lg}{l:Bs}(h:aY g l=(0,a)):a.D.kept=a.D.now:=by
 grind [aY,HV,dD]
structure BW(G:Lg)(P i:Nat):Prop where
 lb:LB G.D
 out:∃rs sd sl,xJ G P rs/\xI rs sd sl/\sd rs.length=eR i/\sl rs.length=lz/\rs.length=i
 s:G.s=35*i
 kn:G.D.kept=G.D.now
theorem aJS:xK lz:=⟨⟨tB _,dl⟩,λt h=>(by cases h),kXH _,kXH _,kXH _⟩
theorem jJh(h:0<P):BW ⟨KG P,0,0⟩ P 0:=⟨⟨tB 0,by show(0:Int)<2^63;decide⟩,⟨[],_,_,dZv h,xI.nil,rfl,rfl,rfl⟩,rfl,rfl⟩
theorem eQy(q:BW G P i)(m:3<=P)(j:i<3):∃a,fQ G (eR i) (aS i)=(0,a,eR (i+1))/\BW a P (i+1):=by
 obtain⟨r,s,sl,I,R,h,f,g⟩:=q.out;obtain⟨p,k,l,t⟩:=Uh j;have o:=q.s;have B:=bJz q.lb (eQ (aS i));obtain⟨a,e,c,U⟩:=Dp I (eQ (aS i)) ip ip;have n:fQ G (eR i) (aS i)=Hv G (eR i) (bP (eR i) (aS i)) (eQ (aS i)):=rfl;have S:rh (s r.length) (sl r.length) (eQ (aS i)) (eR (i+1)) lz:=by rw[h,f];exact .bXX k l
 obtain⟨Z,b,a1,a2,d⟩:=R.snoc S aJS (pM (i+1) ip);rw[e]at B;refine⟨a,?_,B,⟨_,Z,b,c,a1,a2,d,by rw[kXy,kXm,g]⟩,ip,Oa e⟩
 grind [Hv]
theorem fQn(q:oa h p g.D)(I:xJ g P [])(v:0<P)(i:g.s<2^60)(L:g.n<2^60)
 (y:∀h' s,ep Sa h h'->nT h' s p g dz lz->k (.tuple #[.zP s,.zI 0]) h'):
 Ct 19 [.zP p] h k:=by
 obtain⟨A,H⟩:=Ar.ex;have O:A .aQ .neq 0 0=false:=by rw[aJ A];rfl
 have Q:A .aQ .lss 0 (A .nat 0)=false:=by rw[aV A,H.nat];rfl
 have hl:=Ez I v i L;refine kh dQQ A Tryz.func19 ?_;cbv;refine aXN q (by rw[I.ja.len];exact v) (λt e E S a=>?_) (λt l b m c h0 Z E D C=>?_)
 .exfalso;rw[hl]at a;rcases a with a|a
  .exact a rfl
  cases a
 rw[hl]at D C;have K:m=0:=C.len;subst K;cbv;rw[O];cbv;intro x n hx j;have B:Le t n:=zqs j hx
 have r:n x=zcL 150 [.zN,.zN,.zN,.zN,.zI 0,.zN,.zN,.zN]:=zqt j;clear j;cbv;refine ba.gz (G:=Unit) (λ_=>[(27,.v (.zI 0))]) (λ_=>[]) (λw _ h'=>w=0/\h'=n) 0 () ⟨rfl,rfl⟩ ?_
 intro w z u J;cbv;obtain⟨rfl,rfl⟩:=J;rw[Q];cbv;intro s o i d;have N:Le u o:=zqs d i
 have F:o s=zcL 158 [.zP l,.pointer none]:=zqt d;have M:∀h',h'=bO o s (.cells #[.zP l,.zP x] 158 (0,0))->k (.tuple #[.zP s,.zI 0]) h':=λh' f=>by
  have W:Le u h':=by rw[f,d,eI];exact Le.set i
  have x':=E.trans ((B.trans W).x _);exact y h' s x' ⟨_,_,_,_,_,_,_,_,_,⟨l,x,⟨by rw[f];exact ae⟩,D.lt ((B.trans W).t _),q.lt (x'.t dl),⟨_,_,_,_,_,_,_,_,_,_,_,_,W _ _ r,⟨_,_,_,_,_,_,_,_,_,_,_,_,[],rfl,Sl.nil,Sl.nil,Sl.nil,Sl.nil,rfl⟩⟩⟩,⟨Sl.nil,Sl.nil,Sl.nil⟩⟩
 have R:=N _ _ r;clear d y;cbv;rw[av A];refine Ah F rfl (cJ (x:=.zN) R rfl) (λh' f=>?_);have:=M h' f;cbv;exact this
abbrev iZn:List Nat:=158::150::(cKP++(zr++kZ))
theorem nT.lt{s:Nat}(q:nT h s p G d L)(l:cX iZn h h'):nT h' s p G d L:=by obtain⟨b,n,e,a,j,f,c,k,i,w,r⟩:=q.out;obtain⟨g,x,t,m,o,u⟩:=w.out;exact⟨b,n,e,a,j,f,c,k,i,⟨g,x,⟨l _ _ _ _ dl t.out⟩,m.lt (l.sub),o.lt (l.sub),u.lt (l.sub)⟩,r.ls (l.sub)⟩
structure Wl(h:ad)(w p x s t:Nat):Prop where
 out:h w=zcL 41 [.zP p,.zP x,.zP s,.zP t]
theorem Wl.lt{x s t:Nat}(q:Wl h w p x s t)(l:cX [41] h h'):Wl h' w p x s t:=⟨l _ _ _ _ dl q.out⟩
theorem OZ(a:i<3){R:List Row}(h:ei.ao[i]? =some ⟨⟨nm,cols,key,only⟩,R⟩):(⟨nm,cols,key,only⟩:rM)=aS i/\cols.length<=2^16/\nm.size<=2^40/\∀x∈cols,x.name.size<=2^40:=by
 have a:i=0\/i=1\/i=2:=ip
 rcases a with rfl|rfl|rfl
 all_goals
  have h:=congrArg bS.S (Option.some.inj h);have e:(⟨nm,cols,key,only⟩:rM)=_:=h.symm;refine⟨e,?_⟩;obtain⟨rfl,rfl,-,-⟩:=rM.mk.inj e;refine⟨dl,dl,λx hx=>?_⟩;rcases kXB.1 hx with rfl|hx
  .decide
  rw[kXK.1 hx];decide
theorem JB{cs cs':List Value}(g:h w=zcL 41 cs)(a:h'=bO h w (.cells (List.toArray cs') 41 (0,0))):
 h' w=zcL 41 cs'/\ep [41] h h':=by
 subst a;exact⟨ae,gU g dl⟩
theorem Tl{z:Int}(hz:bg z P)(hP:3<=P)(Qt:P<=4096)
 (hk:∀h' w p x s t G,Wl h' w p x s t->nT h' s p G ei lz->sO nH h' t x G ei lz->BW G P 3->k (.zP w) h'):
 Ct 10 [.zI z] h k:=by
 have b0:=jJh (P:=P) ip;obtain⟨rs,sd,sl,I0,R0,aq,ao,an⟩:=b0.out;have HJ:rs=[]:=kQV.1 an;subst HJ;refine cB iXn Tryz.func10 λA hA=>?_;cbv;intro w h1 hw e1;have g1:h1 w=zcL 41 [.pointer none,.pointer none,.pointer none,.pointer none]:=zqt e1;clear e1;cbv;refine fQp (n:=P) hz ip Qt (λh2 p hp l2 q2=>?_);have U:=l2 _ _ g1;cbv;repeat rw[av A]
 refine jE U io (λh3 b=>?_);obtain⟨g3,x3⟩:=JB (cs':=[.zP p,.pointer none,.pointer none,.pointer none]) U b;have q3:=q2.lt (x3.t dl);clear b;cbv;refine fQi hz ip Qt (λh4 x hx l4 q4=>?_);have Y:=l4 _ _ g3;have r4:=q4.down (jU h3);cbv;repeat rw[av A]
 refine jE Y io (λh5 b=>?_);obtain⟨g5,x5⟩:=JB (cs':=[.zP p,.zP x,.pointer none,.pointer none]) Y b;have q5:=(q3.lt (l4.t _)).lt (x5.t dl);have r5:=r4.lt (x5.t dl) (jU _);clear b;cbv;repeat (first|rw[av A] | (refine cy g5 ?_;cbv)|(refine zqr ?_;cbv))
 refine fQn (g:=⟨KG P,0,0⟩) q5 I0 ip (by show(0:Nat)<2^60;decide) (by show(0:Nat)<2^60;decide) (λh6 s x6 q6=>?_);have g6:=x6 _ _ g5 (λ_ _ _ y=>by cases y;decide);have r6:=r5.lt (x6.t dl) (jU _);cbv;repeat rw[av A]
 refine jE g6 io (λh7 b=>?_);obtain⟨g7,x7⟩:=JB (cs':=[.zP p,.zP x,.zP s,.pointer none]) g6 b;have q7:=q6.lt (x7.t dl);have r7:=r6.lt (x7.t dl) (jU _);clear b;cbv;repeat (first|rw[av A] | (refine cy g7 ?_;cbv)|(refine zqr ?_;cbv))
 refine cKa (g:=⟨KG P,0,0⟩) r7 I0 ip (by show(0:Nat)<2^60;decide) (by show(0:Nat)<2^60;decide) (λh8 t l8 r8=>?_);have g8:=l8 _ _ g7;have q8:=q7.lt (l8.t _);cbv;repeat rw[av A]
 refine jE g8 io (λh9 b=>?_);obtain⟨g9,x9⟩:=JB (cs':=[.zP p,.zP x,.zP s,.zP t]) g8 b;have q9:=q8.lt (x9.t dl);have r9:=r8.lt (x9.t dl) (jU _);clear b g1 U g3 Y g5 g6 g7 g8 q2 q3 q4 q5 q6 q7 q8 r4 r5 r6 r7 r8;cbv;refine aZR (λiE b1 n1 c1 b2 n2 c2 b3 n3 c3 b4 n4 c4 D m1 e1 d2 m2 e2 d3 m3 e3 d4 m4 e4 gD qD rD=>?_);have T:Wl iE w p x s t:=⟨gD _ _ g9⟩;have Am:=q9.lt (gD.t _);have F:=r9.le gD;have st:=rD.ao;have hm:m1=3:=st.len;subst hm;obtain⟨J,H⟩:∃J:Nat->Int->ad->Prop,∀v z h',J v z h'=(∃i G,bg z i/\v=3-i/\i<=3/\Wl h' w p x s t/\nT h' s p G (eR i) lz/\sO nH h' t x G (eR i) lz/\Sl 132 bT h' (.slice D 3 e1) ei.ao/\BW G P i):=⟨_,λ_ _ _=>rfl⟩;have M:J 3 0 iE:=by rw[H];exact⟨0,_,⟨rfl⟩,rfl,ip,T,Am,F,st,b0⟩
 cbv;refine ba.gz (G:=Int) (λz=>[(6,.v (.zI z))]) (λ_=>[(4,[.slice b1 n1 c1,.slice b2 n2 c2,.slice b3 n3 c3,.slice b4 n4 c4]),(5,[.slice D 3 e1,.slice d2 m2 e2,.slice d3 m3 e3,.slice d4 m4 e4])]) (λv z h'=>J v z h') 3 0 M ?_
 intro v z1 oV hI;rw[H]at hI;cbv;obtain⟨i,G,B,hv,hi,E,vL,O,c,bw⟩:=hI;have S:A .aQ .lss z1 (A .nat 3)=decide (i<3):=by rw[aV A,B.eq,hA.nat];exact decide_eq_decide.2 (by show(i:Int)<3↔_;omega)
 rw[S];by_cases e:i<3
 .rw[kS e];have ix:=B.ix (len:=3) e;have ly:=B.succ (A:=A);have aZ:3-(i+1)<v:=ip
  have iK:D.isSome=true:=c.bu;obtain⟨Tx,hT⟩:=ay (xs:=ei.ao) (i:=i) e;obtain⟨⟨nm,cols,key,only⟩,R⟩:=Tx;obtain⟨l,qu,nG,Ku⟩:=OZ e hT;obtain⟨j,V,ak⟩:=eQy bw hP e;obtain⟨rs,sd,sl,I,-,-,-,uf⟩:=bw.out;have hs:=bw.s;have u:G.n<=2^29:=by rw[I.n];omega
  have q:G.D.ws.length<=2^28:=by rw[I.ws];exact kXH _
  have al:G.s<=64*(G.D.now.length-1):=by rw[I.ja.len];omega
  obtain⟨gi,UW,ZG⟩:=Pa i ip;rw[<-l]at V;have gw:=E.out;have cm:∀h',Wl h' w p x s t->nT h' s p j (eR (i+1)) lz->sO nH h' t x j (eR (i+1)) lz->Sl 132 bT h' (.slice D 3 e1) ei.ao->J (3-(i+1)) (A .aX .add .i64 z1 1) h':=λh' a1 a2 a3 a4=>by
   rw[H];exact⟨i+1,j,ly,rfl,ip,a1,a2,a3,a4,ak⟩
  have sm:=pM i ip;have ab:=bw.lb;clear S H M hk l bw;generalize eR (i+1)=d' at *;generalize eR i=d at *;cbv;rw[av A];refine cy gw ?_;cbv;refine⟨⟨iK,ix⟩,?_⟩;cbv;refine c.cI hT B.eq (o:=0) (m:=4) dl (λcs r=>?_);obtain⟨sb,C,sc,pk,oL,pj,r,a,-⟩:=r;have r:cs=[.string nm,.slice sb C sc,.zI key,.bool only,.slice pk oL pj]:=r;subst r;have Wr:C=cols.length:=a.len;cbv;refine KU vL a ip nG Ku sm ip u q (λtM Q W=>?_);rw[V]at W |-;have W:nT tM s p j d' lz:=W;have N:=Q _ _ gw (λ_ _ _ y=>by cases y;decide);have ag:=O.lt (Q.t dl) (jU _);have X:=c.mono (Q.t dl);cbv;rw[av A];refine cy N ?_;cbv;refine⟨⟨iK,ix⟩,?_⟩;cbv;refine X.cI hT B.eq (o:=0) (m:=4) dl (λcs r=>?_);obtain⟨sb,C,sc,pk,oL,pj,r,a,-⟩:=r;have r:cs=[.string nm,.slice sb C sc,.zI key,.bool only,.slice pk oL pj]:=r;subst r;have Wr:C=cols.length:=a.len;cbv;refine Hk ag ab gi ZG ip a ip al u q (λZ K f=>?_);rw[V]at f |-;have f:sO nH Z t x j d' lz:=f;have:=cm Z ⟨K _ _ N (λ_ _ _ y=>by cases y;decide)⟩ (W.lt (K.t dl)) f (X.mono (K.t dl));clear cm;cbv;refine zqn (3-(i+1)) (A .aX .add .i64 z1 1) aZ this
 have L:i=3:=ip
 subst L;rw[ur]at vL O;have:=hk oV w p x s t G E vL O bw;rw[kQW e];clear hk H M S;cbv;exact this
end Go.S
