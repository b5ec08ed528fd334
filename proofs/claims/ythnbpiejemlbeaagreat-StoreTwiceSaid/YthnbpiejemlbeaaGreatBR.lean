import Derived.Test.YthnbpiejemlbeaaGreatBQ
import Derived.Test.YthnbpiejemlbeaaGreatN3w
import Derived.Test.YthnbpiejemlbeaaGreatF4d
set_option linter.all false
set_option maxRecDepth 100000
set_option maxHeartbeats 8000000
namespace Go.S
open Go.Sx Go.Proofs
variable {xs ys:Array Value}{only:Bool}{s:Bs}{nm:ByteArray}{d:DB}{e key n:Int}{G g:Lg}{ts:List (List mu)}{cs':List Value}{cs:List cV}{B:List jF}{o:List mu}{P c i j m p:Nat}{a:Nat->Int}{y:Operand}{b f:Option Addr}{k:Value->ad->Prop}{w:World}{h h' h0:ad}{L L':fA}
theorem bZm(b:Bool)(a:k (.int .i64 (AT b)) h):Ct 310 [.bool b] h k:=by
 refine cg eQn Tryz.func310 λA c=>?_;cbv;cases b with
 |false=>exact a
 |true=>exact a
theorem eJJ{n:Nat}(q:Sl 202 bH h (.slice b n c) B)(hn:n<=2^16)
 (hk:∀h' r n' c',Le h h'->bt 5 cj h h' (.slice r n' c') (uN ⟨nm,B,key,only⟩)->k (.slice r n' c') h'):
 Ct 217 [.agg #[.string nm,.slice b n c,.int .i64 key,.bool only]] h k:=by
 obtain⟨A,hA⟩:=Ar.ex;have f:=q.len;have Q:A .nat n=(B.length:Int):=by rw[hA.nat,f];rfl
 obtain⟨d,S⟩:∃d,d=dS nm++[u8 (B.length:Int)]:=⟨_,rfl⟩;have ag:d.length<=65538:=by have:=fO nm;rw[S,cy,qA];omega
 have hS:uN ⟨nm,B,key,only⟩=(d++(B.map kG).flatten++cF key)++[u8 (AT only)]:=by rw[S];unfold uN;simp[dS,vj]
 rw[hS]at hk;clear hS;have FG:([]++dS nm)++[u8 (A .nat n)]=d:=by rw[Q,S];rfl
 obtain⟨J,D⟩:∃J:Nat->((Option Addr×Nat×Nat)×Int)->ad->Prop,∀w g h',J w g h'=(∃i:Nat,aZ g.2 i/\w=n-i/\i<=n/\Le h h'/\bt 5 cj h h' (.slice g.1.1 g.1.2.1 g.1.2.2) (d++((B.take i).map kG).flatten)/\(d++((B.take i).map kG).flatten).length<=2^17*(i+1)):=⟨_,λ_ _ _=>rfl⟩;refine fz eXR A Tryz.func217 ?_;cbv;refine uk (h0:=h) (l:=[]) bt.nil (Le.refl _) (by omega) nm (λm1 ab h1 b1 c1 k1 t1 q1=>?_);have Nl:=fO nm;obtain⟨v,zN⟩:∃v,v=m1+1:=⟨_,rfl⟩;cbv;refine lu q1 k1 (by omega) _ zN (λh2 b2 c2 k2 t2 U=>?_);rw[FG]at U;have H:J n ((b2,v,c2),0) h2:=by rw[D];exact⟨0,⟨rfl⟩,rfl,by omega,k2,by simpa using U,by simp;omega⟩
 clear FG q1 U Q t1 t2;cbv;refine aX.go (G:=(Option Addr×Nat×Nat)×Int) (λg=>[(3,.v (.slice g.1.1 g.1.2.1 g.1.2.2)),(4,.v (.int .i64 g.2))]) (λ_=>[(1,[.string nm,.slice b n c,.int .i64 key,.bool only])]) (λw g h'=>J w g h') n ((b2,v,c2),0) (by constructor<;>cbv) H ?_
 intro w g h3 hI;rw[D]at hI;cbv;obtain⟨⟨gb,gm,gc⟩,z⟩:=g;obtain⟨i,e,hw,hi,N,s,M⟩:=hI;have e:aZ z i:=e;have s:bt 5 cj h h3 (.slice gb gm gc) (d++((B.take i).map kG).flatten):=s;have nq:=s.sl.len;have I:A .aN .lss z (A .nat n)=decide (i<n):=by rw[aR A,e.eq,hA.nat];exact decide_eq_decide.2 (by show(i:Int)<(n:Int)↔_;omega)
 rw[I];by_cases u:i<n
 .rw[ak u];obtain⟨x,hx⟩:=cB B i;have F:=Mz x;have Yf:=fO x.name;have ix:=e.ix u;have V:b.isSome=true:=q.bp;have uC:n-(i+1)<w:=by omega
  have bX:∀r m' c' h',Le h h'->bt 5 cj h h' (.slice r m' c') ((((d++((B.take i).map kG).flatten)++dS x.name)++[u8 x.kind])++[u8 (AT x.null)])->J (n-(i+1)) ((r,m',c'),A .aT .add .i64 z 1) h':=λr m' c' h' l' q'=>by
   rw[D];have ha:(((d++((B.take i).map kG).flatten)++dS x.name)++[u8 x.kind])++[u8 (AT x.null)]=d++((B.take (i+1)).map kG).flatten:=by rw[qM,hx];simp[kG,dS,vj]
   have hb:d++((B.take (i+1)).map kG).flatten=(d++((B.take i).map kG).flatten)++kG x:=by rw[qM,hx];simp
   refine⟨i+1,e.succ (A:=A),rfl,by omega,l',?_,?_⟩
   .rw[<-ha];exact q'
   rw[hb,cy];omega
  have xU:(d++((B.take i).map kG).flatten).length<=2^34:=by omega
  have C:=q.mono (N.t _);clear I M D H F;generalize d++((B.take i).map kG).flatten=L at *;generalize T:x.name=xn at *;generalize O:x.kind=xk at *;generalize K:x.null=xu at *;cbv;refine⟨⟨V,ix⟩,?_⟩;cbv;refine C.cu hx e.eq (o:=0) (m:=1) (by decide) (λcs a=>?_);have a:cs=[.string x.name,.int .i64 x.kind,.bool x.null]:=a;rw[T,O,K]at a;subst a;cbv;refine⟨⟨V,ix⟩,?_⟩;cbv;refine C.cu hx e.eq (o:=1) (m:=1) (by decide) (λcs a=>?_);have a:cs=[.string x.name,.int .i64 x.kind,.bool x.null]:=a;rw[T,O,K]at a;subst a;cbv;refine⟨⟨V,ix⟩,?_⟩;cbv;refine C.cu hx e.eq (o:=2) (m:=1) (by decide) (λcs a=>?_);have a:cs=[.string x.name,.int .i64 x.kind,.bool x.null]:=a;rw[T,O,K]at a;subst a;cbv;refine uk s N (by omega) xn (λt Z h4 b4 c4 P t4 W=>?_);have j:=C.mono (t4 _ (by decide));obtain⟨p,E⟩:∃p,p=t+1:=⟨_,rfl⟩;cbv;refine j.cu hx e.eq (o:=2) (m:=1) (by decide) (λcs a=>?_);have a:cs=[.string x.name,.int .i64 x.kind,.bool x.null]:=a;rw[T,O,K]at a;subst a;cbv;refine⟨⟨_,rfl,rfl⟩,?_⟩;cbv;refine j.cu hx e.eq (o:=1) (m:=1) (by decide) (λcs a=>?_);have a:cs=[.string x.name,.int .i64 x.kind,.bool x.null]:=a;rw[T,O,K]at a;subst a;cbv;refine⟨⟨_,rfl,rfl⟩,?_⟩;cbv;refine lu W P (by omega) xk E (λh5 b5 c5 R t5 Y=>?_);have X:=j.mono (t5 _ (by decide));cbv;refine X.cu hx e.eq (o:=2) (m:=1) (by decide) (λcs a=>?_);have a:cs=[.string x.name,.int .i64 x.kind,.bool x.null]:=a;rw[T,O,K]at a;subst a;cbv;refine⟨⟨_,rfl,rfl⟩,?_⟩;cbv;refine bZm xu ?_;obtain⟨y,QJ⟩:∃y,y=p+1:=⟨_,rfl⟩;cbv;refine lu Y R (by omega) _ QJ (λh6 b6 c6 k6 t6 q6=>?_);have iD:=bX b6 y c6 h6 k6 q6;clear bX;cbv;refine⟨_,((b6,y,c6),A .aT .add .i64 z 1),uC,by constructor<;>cbv,iD⟩
 rw[bn u];have fC:i=n:=by omega
 subst fC;rw[show B.take i=B by rw[f];exact Bk]at s M nq;have xU:(d++(B.map kG).flatten).length<=2^34:=by omega
 clear u D H M I;generalize d++(B.map kG).flatten=L at *;obtain⟨t,Z⟩:∃t,t=gm+8:=⟨_,rfl⟩;cbv;refine sX s N (by omega) key Z (λh4 b4 c4 P t4 W=>?_);cbv;refine bZm only ?_;obtain⟨p,E⟩:∃p,p=t+1:=⟨_,rfl⟩;cbv;refine lu W P (by omega) _ E (λh5 b5 c5 R t5 Y=>?_);have:=hk h5 b5 p c5 R Y;cbv;exact this
theorem bQf{n:Nat}(q:Sl 202 bH h (.slice b n c) B)(s:n<=2^16)
 (e:∀h' d n' c',Le h h'->bt 5 cj h h' (.slice d n' c') (fv ⟨nm,B,key,only⟩)->n'<=2^28->k (.slice d n' c') h'):
 Ct 95 [.agg #[.string nm,.slice b n c,.int .i64 key,.bool only]] h k:=by
 have D:fv ⟨nm,B,key,only⟩=[u8 1]++dS (strOf (uN ⟨nm,B,key,only⟩)):=rfl;rw[D]at e;clear D;refine cg hJt Tryz.func95 λA F=>?_;cbv;refine lu (h0:=h) (l:=[]) bt.nil (Le.refl _) (by omega) 1 (m':=1) rfl (λp i m f H a=>?_);have a:bt 5 cj h p (.slice i 1 m) [u8 1]:=a;cbv;refine eJJ (q.mono (f.t _)) s (λE z G C g v=>?_);have N:=fO (strOf (uN ⟨nm,B,key,only⟩));generalize uN ⟨nm,B,key,only⟩=S at *;have K:=a.mono (g.t _);cbv;refine rh v.sl ?_;generalize strOf S=x at *;cbv;refine uk K (f.trans g) (by omega) x (λu y r j o t I w=>?_);have:=e r j u o t w (by omega);cbv;exact this
theorem aQf(nm:ByteArray)
 (a:∀h' b n' c',Le h h'->bt 5 cj h h' (.slice b n' c') (fo nm)->n'<=2^28->k (.slice b n' c') h'):
 Ct 171 [.string nm] h k:=by
 have D:fo nm=[u8 2]++dS nm:=rfl;rw[D]at a;clear D;have N:=fO nm;refine cg eZG Tryz.func171 λA r=>?_;cbv;refine lu (h0:=h) (l:=[]) bt.nil (Le.refl _) (by omega) 2 (m':=1) rfl (λg c e j t q=>?_);have q:bt 5 cj h g (.slice c 1 e) [u8 2]:=q;cbv;refine uk q j (by omega) nm (λn p i d f m s o=>?_);have:=a i d n f m o (by omega);cbv;exact this
theorem nv.down{a:ad}{D:Dk}(q:nv a h p D)(l:Le h0 a):nv h0 h p D:=by obtain⟨k,kc,n,f,i,m,j,g,o1,o2,e1,e,w,b,c,z,o,r,d⟩:=q.out;exact⟨k,kc,n,f,i,m,j,g,o1,o2,e1,e,w.base l,b,c,l.none z,l.none o,l.none r,l.trans d⟩
abbrev nH:ad:=λ_=>none
theorem nC(h:ad):Le nH h:=λb o a=>by cases a
theorem aXM{r:List Bs}(I:yf g P r)(h:0<P)(s:g.s<2^60)(n:g.n<2^60):Hw g.D=(r,true)/\uZ (dp g.D 0)=(g.s:Int)/\uZ ((dp g.D 0).drop 8)=(g.n:Int):=by
 have hl:=DL I h s n;have c:(dE g.D).length=jB g.D:=by unfold dE jB;rw[sS (λb a=>I.iP.pg b (jKd a)),iz];try omega
 unfold gA at hl;rw[I.iP.dead,if_neg (by simp)]at hl;have hl:=congrArg Prod.fst hl;have hl:Ay g.D (uZ (dp g.D 0)) (uZ ((dp g.D 0).drop 8))=⟨g.s,g.n,r,false⟩:=hl;have O:dp g.D 0=eI (rI g.s g.n):=by unfold dp;rw[show(0:Int).toNat=0 from rfl,I.hd];rfl
 have e1:uZ (eI (rI g.s g.n))=g.s:=by unfold eI rI;rw[ym,DT (by omega)]
 have e:uZ ((eI (rI g.s g.n)).drop 8)=g.n:=by unfold eI rI;have:(cF (g.s:Int)).length=8:=bY _;rw[ym,<-this,jKX,DT (by omega)]
 refine⟨?_,by rw[O];exact e1,by rw[O];exact e⟩;rw[<-aXN c];unfold Ww;rw[I.iP.dead,hl];rfl
structure Bm(h:ad)(b1:Option Addr)(n1 c1:Nat)(b2:Option Addr)(n2 c2:Nat)(b3:Option Addr)(n3 c3:Nat)(L:fA):Prop where
 oR:Sl 172 dY h (.slice b1 n1 c1) L.oR
 dJ:Sl 113 dU h (.slice b2 n2 c2) L.dJ
 Es:Sl 47 gF h (.slice b3 n3 c3) L.Es
abbrev aXW:List Nat:=[172,47,113,161,45]
theorem Bm.ls{a c:Option Addr}{n d g e f:Nat}(q:Bm h b n d a g e c i f L)(l:cO aXW h h'):Bm h' b n d a g e c i f L:=
 ⟨q.oR.mono (l.sub),q.dJ.mono (l.sub),q.Es.mono (l.sub)⟩
structure yd(h0 h:ad)(t p:Nat)(G:Lg)(d:DB)(L:fA):Prop where
 out:∃lg b1 n1 c1 b2 n2 c2 b3 n3 c3 b4 n4 c4 e1 m1 d1 e2 m2 d2 e3 m3 d3,h t=zcL 197 [.zP lg,.slice b1 n1 c1,.slice b2 n2 c2,.slice b3 n3 c3,.slice b4 n4 c4,.int .i64 L.next,.slice e1 m1 d1,.slice e2 m2 d2,.slice e3 m3 d3]/\
  Rt h0 h lg p (G.s:Int) (G.n:Int)/\nv h0 h p G.D/\RP h b1 n1 c1 b2 n2 c2 b3 n3 c3 b4 n4 c4 d/\Bm h e1 m1 d1 e2 m2 d2 e3 m3 d3 L
 new:h0 t=none
abbrev fJQ:List Nat:=[197,353,231,210,326,132,202,46,45,337,161,340,422,172,47,113]
theorem yd.lt{t:Nat}(q:yd h0 h t p G d L)(l:cO fJQ h h')(u:Le h0 h'):yd h0 h' t p G d L:=by obtain⟨v,b,z,f,a,A,i,c,B,j,e,C,k,e1,w,m,r,x,n,s,y,o,g,H,F,E,D⟩:=q.out;exact⟨⟨v,b,z,f,a,A,i,c,B,j,e,C,k,e1,w,m,r,x,n,s,y,o,l _ _ _ _ (by decide) g,H.lt (l.sub),F.lt (l.sub) u,E.lt (l.sub),D.ls (l.sub)⟩,q.new⟩
theorem yd.le{t:Nat}(q:yd h0 h t p G d L)(l:Le h h'):yd h0 h' t p G d L:=by obtain⟨v,b,z,f,a,A,i,c,B,j,e,C,m,e1,w,n,s,x,o,u,y,r,g,F,k,E,D⟩:=q.out;exact q.lt (l.t _) (k.base.trans l)
theorem cZv(q:nv h0 h p g.D)(I:yf g P [])(v:0<P)(z:g.s<2^60)(y:g.n<2^60)
 (f:∀h' t,Le h h'->yd h0 h' t p g dz lz->k (.tuple #[.zP t,.int .i64 0]) h'):
 Ct 34 [.zP p] h k:=by
 obtain⟨A,s⟩:=Ar.ex;obtain⟨s1,s2,s3⟩:=aXM I v z y;have Y:A .aN .neq 0 0=false:=by rw[az A];rfl
 have J:A .aN .lss 0 (A .nat 0)=false:=by rw[aR A,s.nat];rfl
 refine fz hKp A Tryz.func34 ?_;cbv;refine cZu q I.iP.dead s1 (λr j b m c l n B=>?_);rw[s2,s3]at n;have x:m=0:=B.len;subst x;cbv;rw[Y];cbv;intro t a i e;have d:Le r a:=by rw[e];exact Le.set i
 have o:a t=zcL 197 [.zP j,.slice none 0 0,.slice none 0 0,.slice none 0 0,.slice none 0 0,.int .i64 0,.slice none 0 0,.slice none 0 0,.slice none 0 0]:=(congrFun e t).trans ae;have:=f a t (l.trans d) ⟨⟨j,none,0,0,none,0,0,none,0,0,none,0,0,none,0,0,none,0,0,none,0,0,o,n.lt (d.t _),q.le (l.trans d),⟨Sl.nil,Sl.nil,Sl.nil,Sl.nil⟩,⟨Sl.nil,Sl.nil,Sl.nil⟩⟩,(q.base.trans l).none i⟩;clear e f;cbv;refine aX.go (G:=Unit) (λ_=>[(8,.v (.int .i64 0))]) (λ_=>[]) (λw _ h'=>w=0/\h'=a) 0 () (by constructor<;>cbv) ⟨rfl,rfl⟩ ?_
 intro w g C u;cbv;obtain⟨rfl,rfl⟩:=u;rw[J];cbv;exact this
theorem MZ{t:Nat}(q:yd h0 h t p G d L)(hl:LB G.D)(gL:d.ao.Pairwise (λa b=>dA a.S.name b.S.name<0))(K:∀t∈d.ao,t.S.name.size<=2^60)(V:d.ao.length<=2^37){sb:Option Addr}{sn sc:Nat}(qs:Sl 202 bH h (.slice sb sn sc) B)
 (Yk:sn<=2^16) (hs:G.s<=64*(G.D.now.length-1)) (hn:G.n<=2^29) (hw:G.D.ws.length<=2^28) 
 (c:∀h',dX (197::aXX) h h'->yd h0 h' t p (gH G d ⟨nm,B,key,only⟩).2.1 (gH G d ⟨nm,B,key,only⟩).2.2 L->k (.int .i64 (gH G d ⟨nm,B,key,only⟩).1) h'):
 Ct 37 [.zP t,.agg #[.string nm,.slice sb sn sc,.int .i64 key,.bool only]] h k:=by
 have f:gH G d ⟨nm,B,key,only⟩=Nv G d (cf d ⟨nm,B,key,only⟩) (fv ⟨nm,B,key,only⟩):=rfl;have Q:=rM gL ⟨nm,B,key,only⟩;obtain⟨s,b1,n1,c1,b2,n2,c2,b3,n3,c3,b4,n4,c4,e1,Y,H,O,Z,M,P,m3,N,g,ql,qk,qd,qL⟩:=q.out;obtain⟨nx,op,bs,ts⟩:=L;have g:h t=zcL 197 [.zP s,.slice b1 n1 c1,.slice b2 n2 c2,.slice b3 n3 c3,.slice b4 n4 c4,.int .i64 nx,.slice e1 Y H,.slice O Z M,.slice P m3 N]:=g;refine cg hKm Tryz.func37 λA hA=>?_;cbv;rw[av A];refine cr g ?_;cbv;refine HB qd qs V K (D:=cf d ⟨nm,B,key,only⟩) Q.symm (λh3 gE vR fH fQ nS gv jo qJ jn By Fb uV r I=>?_);have q3:=q.le r;have g3:=r _ _ g;have S:=qs.mono (r.t _);generalize cf d ⟨nm,B,key,only⟩=C at *;obtain⟨v,z⟩:=C;have I:RP h3 gE vR fH fQ nS gv jo qJ jn By Fb uV v:=I;have l:A .aN .eql z 0=decide (z=0):=au A ..;by_cases E:z=0
 .have f:gH G d ⟨nm,B,key,only⟩=((aY G (fv ⟨nm,B,key,only⟩)).1,(aY G (fv ⟨nm,B,key,only⟩)).2,if(aY G (fv ⟨nm,B,key,only⟩)).1=0 then v else d):=by rw[f];exact if_neg (λh=>h E)
  rw[f]at c;rw[ak E]at l;clear f;cbv;rw[l];cbv;rw[av A];refine cr g3 ?_;cbv;refine bQf S Yk (λh4 rb rn rc W q4 AH=>?_);have g4:=W _ _ g3;have y:=r.trans W;generalize fv ⟨nm,B,key,only⟩=rec at *;cbv;refine cr g4 ?_;cbv;refine⟨⟨_,rfl,rfl⟩,?_⟩;cbv;refine Bn (qk.le y) hl (ql.lt (y.t _)) q4.sl hs hn AH hw (λi x j F=>?_);have T:=x _ _ g4 (λ_ _ _ m=>by cases m;decide);have xM:=(qd.lt (y.t _)).lt (x.t (by decide));have J:=(I.lt (W.t _)).lt (x.t (by decide));have Jd:=(qL.ls (y.t _)).ls (x.t (by decide));have Vl:dX (197::aXX) h i:=(y.x _).trans (x.sup (by decide));generalize aY G rec=R at *;obtain⟨e,w⟩:=R;have j:nv h0 i p w.D:=j;have F:Rt h0 i s p (w.s:Int) (w.n:Int):=F;have X:A .aN .eql e 0=decide (e=0):=au A ..;by_cases m:e=0
  .subst m;have c:∀h',dX (197::aXX) h h'->yd h0 h' t p w v ⟨nx,op,bs,ts⟩->k (.int .i64 0) h':=c;have fin:∀h',h'=bL i t (.cells #[.zP s,.slice gE vR fH,.slice fQ nS gv,.slice jo qJ jn,.slice By Fb uV,.int .i64 nx,.slice e1 Y H,.slice O Z M,.slice P m3 N] 197 (0,0))->k (.int .i64 0) h':=λh' n=>by
    have u:dX [197] i h':=by rw[n];exact gN T (by decide)
    have zK:Le h0 h':=λb o U=>by
     rw[n,ck (λe=>by rw[e,q.new]at U;cases U)];exact j.base _ _ U
    exact c h' (Vl.trans (u.sup (by decide))) ⟨⟨s,_,_,_,_,_,_,_,_,_,_,_,_,_,_,_,_,_,_,_,_,_,by rw[n];exact ae,F.lt (u.t (by decide)),j.lt (u.t (by decide)) zK,J.lt (u.t (by decide)),Jd.ls (u.t (by decide))⟩,q.new⟩
   clear c q3;cbv;rw[X];cbv;repeat rw[av A]
   refine ju T (by simp) (λh6 n=>?_);have:=fin h6 n;clear fin;cbv;exact this
  have:=c i Vl ⟨⟨s,b1,n1,c1,b2,n2,c2,b3,n3,c3,b4,n4,c4,e1,Y,H,O,Z,M,P,m3,N,T,F,j,by show RP i _ _ _ _ _ _ _ _ _ _ _ _ (if e=0 then v else d);rw[if_neg m];exact xM,Jd⟩,q.new⟩;rw[bn m]at X;clear c q3;cbv;rw[X];cbv;exact this
 have f:gH G d ⟨nm,B,key,only⟩=(z,G,d):=by rw[f];exact if_pos E
 rw[f]at c;rw[bn E]at l;have:=c h3 (r.x _) q3;clear c f;cbv;rw[l];cbv;rw[l];cbv;exact this
theorem UC{L:List mu}{n:Nat}(q:Sl 172 dY h (.slice b n c) L)(hB:∀t∈L,Dv t)(hn:n<=2^30)
 (N:∀h' a n' c',Le h h'->Sl 100 yj h' (.slice a n' c') (wD L)->k (.slice a n' c') h'):Ct 187 [.slice b n c] h k:=by
 have P:=q.len;have QK:(wD L).length=L.length:=by unfold wD;simp
 have O:∀ {i:Nat} {t:mu},L[i]? =some t->(wD L)[i]? =some (jN t.id t.JQ):=λh=>Mq h;generalize wD L=H at *;obtain⟨J,D⟩:∃J:Nat->((Option Addr×Nat×Nat)×Int)->ad->Prop,∀w g h',J w g h'=(∃i,aZ g.2 i/\w=n-i/\i<=n/\Le h h'/\bt 100 yj h h' (.slice g.1.1 g.1.2.1 g.1.2.2) (H.take i)):=⟨_,λ_ _ _=>rfl⟩;have l:J n ((none,0,0),0) h:=by rw[D];exact⟨0,⟨rfl⟩,rfl,by omega,Le.refl _,bt.nil⟩
 refine cg eZu Tryz.func187 λA hA=>?_;cbv;refine aX.go (G:=(Option Addr×Nat×Nat)×Int) (λg=>[(3,.v (.slice g.1.1 g.1.2.1 g.1.2.2)),(4,.v (.int .i64 g.2))]) (λ_=>[]) (λw g h'=>J w g h') n ((none,0,0),0) (by constructor<;>cbv) l ?_
 intro w g p M;rw[D]at M;cbv;obtain⟨⟨E,o,F⟩,z⟩:=g;obtain⟨i,e,hw,hi,u,f⟩:=M;have e:aZ z i:=e;have f:bt 100 yj h p (.slice E o F) (H.take i):=f;have nq:=f.sl.len;rw[eA]at nq;have C:A .aN .lss z (A .nat n)=decide (i<n):=by rw[aR A,e.eq,hA.nat];exact decide_eq_decide.2 (by show(i:Int)<(n:Int)↔_;omega)
 rw[C];by_cases d:i<n
 .rw[ak d];obtain⟨x,hx⟩:=cB L i;have I:=hB x (cK hx);have ix:=e.ix d;have iV:b.isSome=true:=q.bp;have Z:n-(i+1)<w:=by omega
  have T:=lY (O hx);have X:∀a m' c' h',Le h h'->bt 100 yj h h' (.slice a m' c') (H.take i++[jN x.id x.JQ])->J (n-(i+1)) ((a,m',c'),A .aT .add .i64 z 1) h':=λa m' c' h' l' q'=>by
   rw[D];exact⟨i+1,e.succ (A:=A),rfl,d,l',by rw[T];exact q'⟩
  have oF:o+1<=2^39:=by omega
  have v:(jN x.id x.JQ).length=32:=fL _;clear C D l T O;generalize H.take i=Lc at *;obtain⟨R,j⟩:=x;cbv;refine⟨⟨iV,ix⟩,?_⟩;cbv;refine(q.mono (u.t _)).load hx e.eq (λcs ar=>?_);obtain⟨rb,V,rc,rfl,r⟩:=ar;have r:Sl 161 bz p (.slice rb V rc) j:=r;have W:V<=2^30:=by rw[r.len];exact I.len
  cbv;refine UD r (λc d=>(I.cKm c d).row) W (λh3 g Q hg=>?_);have v:(jN R j).length=32:=v;generalize jN R j=RH at *;cbv;intro n4 K Y m;have S:Le h3 K:=by rw[m];exact Le.set Y
  have q4:=bf (s:=yj) (cs:=hl g) ((congrFun m n4).trans ae) (EJ (h:=K) hg v);clear m;cbv;refine(f.mono ((Q.trans S).t _)).append q4 (by decide) rfl (by decide) oF ((u.trans Q).trans S) (λU y B h5 JJ l5 t5 k5 q5=>?_);have iD:=X y U B h5 l5 q5;clear X k5;cbv;refine⟨_,((y,U,B),A .aT .add .i64 z 1),Z,by constructor<;>cbv,iD⟩
 rw[bn d];rw[ie (by omega)]at f;have:=N p E o F u f.sl;clear D l O N;cbv;exact this
theorem bZn{F:Int}{m c o:Option Addr}{D s n e E t:Nat}{bs:List sf}(q:Sl 113 dU h (.slice c n e) bs)(K:bs.length<=2^20)
 (a:∀h' g,Le h h'->hl g=aQ (cW bs).2.1->k (.tuple #[.agg (.int .i64 (cW bs).1::hl g).toArray,.int .i64 (cW bs).2.2]) h'):
 Ct 82 [.agg #[.int .i64 F,.slice m D s,.slice c n e,.slice o E t]] h k:=by
 obtain⟨A,d⟩:=Ar.ex;have U:n=bs.length:=q.len;have f:A .aN .eql (A .nat n) 0=decide (n=0):=by rw[au A,d.nat];exact decide_eq_decide.2 (by show(n:Int)=0↔_;omega)
 obtain⟨z,P⟩:∃z,z=A .aT .sub .i64 (A .nat n) 1:=⟨_,rfl⟩;have w:0<n->aZ z (n-1):=λh=>⟨by
  rw[P,d.aT,d.nat];show IntKind.i64.wrap ((n:Int)-1)=_;rw[IntWalk.i64_in _ (by omega)];omega⟩
 refine fz hJE A Tryz.func82 ?_;cbv;rw[f];by_cases i:n=0
 .have l:cW bs=(0,List.replicate 32 0,2):=by have:bs=[]:=kh (by omega);subst this;rfl
  rw[l]at a;rw[ak i];have:=a h (λ_=>0) (Le.refl _) rfl;clear a;cbv;exact this
 obtain⟨x,hx⟩:=cB bs (n-1);have l:cW bs=(x.n,ef x,0):=by unfold cW;rw[kQu,show bs.length-1=n-1 from by omega,hx]
 rw[l]at a;have w:=w (by omega);have ix:=w.ix (len:=n) (by omega);have V:c.isSome=true:=q.bp;rw[bn i];clear f l;cbv;rw[<-P];refine⟨⟨V,ix⟩,?_⟩;cbv;obtain⟨I,J,xr,G⟩:=x;refine q.load hx w.eq (λcs r=>?_);obtain⟨r,p,j⟩:=r;obtain⟨u,X⟩:=sK (b:=J) p;obtain⟨v,H⟩:=sK (b:=xr) j;have r:cs=zT I u v G:=by rw[r,mW,X,H]
 subst r;cbv;refine Nb X H p j (λy g C B=>?_);have:=a y g C B;clear a;cbv;exact this
theorem Rv{w:Int}{R b2 b3:Option Addr}{n S d c2 n3 c3:Nat}{bs:List sf}(ql:Bm h R n S b2 d c2 b3 n3 c3 ⟨w,o,bs,ts⟩)
 (hB:∀t∈o,Dv t) (ho:o.length<=2^20) (hb:bs.length<=2^20) (ht:ts.length<=2^20) 
 (U:∀h' gE vR fH fQ nS gv jo qJ jn,Le h h'->Bm h' gE vR fH fQ nS gv jo qJ jn (mG ⟨w,o,bs,ts⟩).1->k (.tuple #[.agg #[.int .i64 w,.slice gE vR fH,.slice fQ nS gv,.slice jo qJ jn],.int .i64 (mG ⟨w,o,bs,ts⟩).2]) h'):
 Ct 81 [.agg #[.int .i64 w,.slice R n S,.slice b2 d c2,.slice b3 n3 c3]] h k:=by
 obtain⟨A,hA⟩:=Ar.ex;obtain⟨q1,q2,q3⟩:=ql;have q1:Sl 172 dY h (.slice R n S) o:=q1;have q2:Sl 113 dU h (.slice b2 d c2) bs:=q2;have q3:Sl 47 gF h (.slice b3 n3 c3) ts:=q3;have fh:n=o.length:=q1.len;have eU:d=bs.length:=q2.len;have Jt:n3=ts.length:=q3.len;have f1:A .aN .eql (A .nat n) 0=decide (n=0):=by rw[au A,hA.nat];exact decide_eq_decide.2 (by show(n:Int)=0↔_;omega)
 have ko:aZ (A .aT .add .i64 (A .nat d) 1) (d+1):=(aZ.nat d).succ (A:=A);obtain⟨z,Ot⟩:∃z,z=A .aT .add .i64 (A .nat d) 1:=⟨_,rfl⟩;rw[<-Ot]at ko;have ao:z=((bs.length+1:Nat):Int):=by rw[ko.eq,eU]
 have hE:n≠0->mG ⟨w,o,bs,ts⟩=(⟨w,[],bs++[⟨z,vE bs,gP (wD o),A .nat n⟩],ts++[o]⟩,0):=λh0=>by
  unfold mG;rw[if_neg (by show ¬o.length=0;omega),ao,hA.nat,fh];rfl
 have FQ:n=0->mG ⟨w,o,bs,ts⟩=(⟨w,o,bs,ts⟩,2):=λh0=>by
  unfold mG;rw[if_pos (by show o.length=0;omega)]
 generalize mG ⟨w,o,bs,ts⟩=RS at *;refine fU A [6,7] (aj hJF.aw hJF.bq) Tryz.func81 rfl (by kernel_rfl) ?_;cbv;rw[f1];by_cases hc:n=0
 .rw[FQ hc]at U;have:=U h R n S b2 d c2 b3 n3 c3 (Le.refl _) ⟨q1,q2,q3⟩;rw[ak hc];clear U;cbv;exact this
 rw[hE hc]at U;rw[bn hc];clear hE FQ f1;have f2:A .aN .gtr (A .nat d) 0=decide (0<d):=by rw[bC A,hA.nat];exact decide_eq_decide.2 (by show(d:Int)>0↔_;omega)
 obtain⟨z0,xP⟩:∃z0,z0=A .aT .sub .i64 (A .nat d) 1:=⟨_,rfl⟩;have xw:0<d->aZ z0 (d-1):=λh=>⟨by
  rw[xP,hA.aT,hA.nat];show IntKind.i64.wrap ((d:Int)-1)=_;rw[IntWalk.i64_in _ (by omega)];omega⟩
 have aq:(wD o).length=o.length:=by unfold wD;simp
 have Cg:(vE bs).length=32:=by
  unfold vE;cases bs.getLast? with
  |none=>rfl
  |some x=>exact Bd x
 obtain⟨p,Fw⟩:∃p,p=vE bs:=⟨_,rfl⟩;rw[<-Fw]at U Cg;obtain⟨E,TE⟩:∃E,E=wD o:=⟨_,rfl⟩;rw[<-TE]at U aq;obtain⟨r,CS⟩:∃r,r=gP E:=⟨_,rfl⟩;rw[<-CS]at U;obtain⟨C,fD⟩:∃C:(Nat->Int)->ad->Prop,∀g h',C g h'=(Le h h'/\hl g=aQ p):=⟨_,λ_ _=>rfl⟩;cbv;rw[<-Ot];refine UC q1 hB (by omega) (λh1 eb en ec l1 qe=>?_);rw[<-TE]at qe;cbv
 (try rw[<-Ot])
 refine aQb _ qe (kB _) (λh2 g1 l2 yB lH=>?_);have fa:=l1.trans l2;rw[<-CS]at yB lH;cbv
 (try rw[<-Ot])
 refine ld.go (G:=Nat->Int) (λ_=>[]) (λg=>[(4,zT z g g1 (A .nat n)),(1,[.int .i64 w,.slice R n S,.slice b2 d c2,.slice b3 n3 c3]),(2,[.int .i64 0,.slice none 0 0,.slice none 0 0,.slice none 0 0])]) C ?_ ?_
 .cbv;rw[f2];by_cases kO:0<d
  .obtain⟨x,hx⟩:=cB bs (d-1);have ab:p=ef x:=by rw[Fw];unfold vE;rw[kQu,show bs.length-1=d-1 from by omega,hx];rfl
   have Q:∀g h',Le h h'->hl g=aQ (ef x)->C g h':=λg h' l' hg=>by rw[fD,ab];exact⟨l',hg⟩
   have xw:=xw kO;have ix:=xw.ix (len:=d) (by omega);have iV:b2.isSome=true:=q2.bp;rw[ak kO];clear f2 fD;cbv;rw[<-xP];refine⟨⟨iV,ix⟩,?_⟩;cbv;refine q2.Lv fa hx xw.eq (λcs ar=>?_);obtain⟨ar,hp,hr⟩:=ar;obtain⟨xn,xp,xr,xc⟩:=x;obtain⟨gp,HX⟩:=sK (b:=xp) hp;obtain⟨gr,HW⟩:=sK (b:=xr) hr;have ar:cs=zT xn gp gr xc:=by rw[ar,mW,HX,HW]
   subst ar;cbv;refine Nb HX HW hp hr (λT g5 l an=>?_);have y:=Q g5 T (fa.trans l) an;clear Q;cbv;refine⟨g5,⟨?_,?_,?_⟩,y⟩<;>cbv
  have ab:p=List.replicate 32 0:=by rw[Fw];have:bs=[]:=kh (by omega);subst this;rfl
  have y:C (λ_=>0) h2:=by rw[fD,ab];exact⟨fa,rfl⟩
  rw[bn kO];clear f2 fD;cbv;refine⟨_,⟨?_,?_,?_⟩,y⟩<;>cbv
 intro g Y y;rw[fD]at y;cbv;obtain⟨ls,hg⟩:=y;have al:=q2.mono (ls.t _);obtain⟨D,yE⟩:∃D:(Option Addr×Nat×Nat)->ad->Prop,∀v h',D v h'=(Le h h'/\Sl 113 dU h' (.slice v.1 v.2.1 v.2.2) (bs++[⟨z,p,r,A .nat n⟩])):=⟨_,λ_ _=>rfl⟩;have Q:∀b m c h',Le Y h'->Sl 113 dU h' (.slice b m c) (bs++[⟨z,p,r,A .nat n⟩])->D (b,m,c) h':=λb m c h' l' q'=>by rw[yE];exact⟨ls.trans l',q'⟩
 clear fD f2 xw;cbv;refine ld.go (G:=Option Addr×Nat×Nat) (λ_=>[]) (λv=>[(4,zT z g g1 (A .nat n)),(1,[.int .i64 w,.slice R n S,.slice v.1 v.2.1 v.2.2,.slice b3 n3 c3]),(2,[.int .i64 0,.slice none 0 0,.slice none 0 0,.slice none 0 0])]) D ?_ ?_
 .skip;cbv;refine⟨?_,?_⟩
  .skip;intro V f pH B;have i:Le Y f:=by rw[B];exact Le.set pH
   clear B;have F:bt 113 dU f f (.slice (zsA V) 0 0) ([]:List sf):=bt.nil;cbv;refine⟨?_,?_⟩
   .skip;refine F.append (al.mono (i.t _)) (by decide) rfl (by decide) (by omega) (Le.refl _) (λm5 b5 c5 T JJ l t5 H u=>?_);rw[np]at u;clear H;cbv;intro j a M e;have L:Le T a:=by rw[e];exact Le.set M
    have q:=(i.trans l).trans L;have O:Sl 113 dU a (.slice (zsA j) 1 1) [⟨z,p,r,A .nat n⟩]:=bf (s:=dU) (cs:=zT z g g1 (A .nat n)) ((congrFun e j).trans ae) (⟨(mW ..).trans (by rw[hg,yB]),Cg,lH⟩);clear e;cbv;refine(u.mono (L.t _)).append O (by decide) rfl (by decide) (by omega) (l.trans L) (λZ W X h6 J K t6 I N=>?_);have P:=i.trans K;clear I;have y:=Q _ _ _ _ P N.sl;clear Q;cbv;refine⟨(W,Z,X),⟨?_,?_,?_⟩,y⟩<;>cbv
   skip;intro j a M e;have L:Le f a:=by rw[e];exact Le.set M
   have q:=i.trans L;have O:Sl 113 dU a (.slice (zsA j) 1 1) [⟨z,p,r,A .nat n⟩]:=bf (s:=dU) (cs:=zT z g g1 (A .nat n)) ((congrFun e j).trans ae) (⟨(mW ..).trans (by rw[hg,yB]),Cg,lH⟩);clear e;have F:bt 113 dU a a (.slice (zsA V) 0 0) ([]:List sf):=bt.nil;cbv;refine F.append (al.mono (q.t _)) (by decide) rfl (by decide) (by omega) (Le.refl _) (λm5 b5 c5 T JJ l t5 H u=>?_);rw[np]at u;clear H;cbv;refine u.append (O.mono (l.t _)) (by decide) rfl (by decide) (by omega) l (λZ W X h6 J K t6 I N=>?_);have P:=q.trans K;clear I;have y:=Q _ _ _ _ P N.sl;clear Q;cbv;refine⟨(W,Z,X),⟨?_,?_,?_⟩,y⟩<;>cbv
  skip;intro j a M e;have q:Le Y a:=by rw[e];exact Le.set M
  have O:Sl 113 dU a (.slice (zsA j) 1 1) [⟨z,p,r,A .nat n⟩]:=bf (s:=dU) (cs:=zT z g g1 (A .nat n)) ((congrFun e j).trans ae) (⟨(mW ..).trans (by rw[hg,yB]),Cg,lH⟩);clear e;cbv;intro V f pH B;have i:Le a f:=by rw[B];exact Le.set pH
  clear B;have F:bt 113 dU f f (.slice (zsA V) 0 0) ([]:List sf):=bt.nil;cbv;refine F.append (al.mono ((q.trans i).t _)) (by decide) rfl (by decide) (by omega) (Le.refl _) (λm5 b5 c5 T JJ l t5 H u=>?_);rw[np]at u;clear H;cbv;refine u.append (O.mono ((i.trans l).t _)) (by decide) rfl (by decide) (by omega) l (λZ W X h6 J K t6 I N=>?_);have P:=(q.trans i).trans K;clear I;have y:=Q _ _ _ _ P N.sl;clear Q;cbv;refine⟨(W,Z,X),⟨?_,?_,?_⟩,y⟩<;>cbv
 intro v Y hD;rw[yE]at hD;cbv;obtain⟨vb,vm,vc⟩:=v;obtain⟨ls,qv⟩:=hD;have qv:Sl 113 dU Y (.slice vb vm vc) (bs++[⟨z,p,r,A .nat n⟩]):=qv;have ag:=q3.mono (ls.t _);have qo:=q1.mono (ls.t _);have Bv:∀b m c h',Le Y h'->Sl 47 gF h' (.slice b m c) (ts++[o])->k (.tuple #[.agg #[.int .i64 w,.slice none 0 0,.slice vb vm vc,.slice b m c],.int .i64 0]) h':=λb m c h' l' q'=>U h' none 0 0 vb vm vc b m c (ls.trans l') ⟨Sl.nil,qv.mono (l'.t _),q'⟩;clear U yE Q;cbv;refine⟨?_,?_⟩
 .skip;intro V f pH B;have i:Le Y f:=by rw[B];exact Le.set pH
  clear B;have F:bt 47 gF f f (.slice (zsA V) 0 0) ([]:List (List mu)):=bt.nil;cbv;refine⟨?_,?_⟩
  .skip;refine F.append (ag.mono (i.t _)) (by decide) rfl (by decide) (by omega) (Le.refl _) (λm5 b5 c5 T JJ l t5 H u=>?_);rw[np]at u;clear H;cbv;intro j a M e;have L:Le T a:=by rw[e];exact Le.set M
   have q:=(i.trans l).trans L;have O:Sl 47 gF a (.slice (zsA j) 1 1) [o]:=bf (s:=gF) (cs:=[.slice R n S]) ((congrFun e j).trans ae) (⟨_,rfl,qo.mono ((q).t _)⟩);clear e;cbv;refine(u.mono (L.t _)).append O (by decide) rfl (by decide) (by omega) (l.trans L) (λZ W X h6 J K t6 I N=>?_);have P:=i.trans K;clear I;have ay:=Bv _ _ _ _ P N.sl;clear Bv;cbv;exact ay
  skip;intro j a M e;have L:Le f a:=by rw[e];exact Le.set M
  have q:=i.trans L;have O:Sl 47 gF a (.slice (zsA j) 1 1) [o]:=bf (s:=gF) (cs:=[.slice R n S]) ((congrFun e j).trans ae) (⟨_,rfl,qo.mono ((q).t _)⟩);clear e;have F:bt 47 gF a a (.slice (zsA V) 0 0) ([]:List (List mu)):=bt.nil;cbv;refine F.append (ag.mono (q.t _)) (by decide) rfl (by decide) (by omega) (Le.refl _) (λm5 b5 c5 T JJ l t5 H u=>?_);rw[np]at u;clear H;cbv;refine u.append (O.mono (l.t _)) (by decide) rfl (by decide) (by omega) l (λZ W X h6 J K t6 I N=>?_);have P:=q.trans K;clear I;have ay:=Bv _ _ _ _ P N.sl;clear Bv;cbv;exact ay
 skip;intro j a M e;have q:Le Y a:=by rw[e];exact Le.set M
 have O:Sl 47 gF a (.slice (zsA j) 1 1) [o]:=bf (s:=gF) (cs:=[.slice R n S]) ((congrFun e j).trans ae) (⟨_,rfl,qo.mono ((q).t _)⟩);clear e;cbv;intro V f pH B;have i:Le a f:=by rw[B];exact Le.set pH
 clear B;have F:bt 47 gF f f (.slice (zsA V) 0 0) ([]:List (List mu)):=bt.nil;cbv;refine F.append (ag.mono ((q.trans i).t _)) (by decide) rfl (by decide) (by omega) (Le.refl _) (λm5 b5 c5 T JJ l t5 H u=>?_);rw[np]at u;clear H;cbv;refine u.append (O.mono ((i.trans l).t _)) (by decide) rfl (by decide) (by omega) l (λZ W X h6 J K t6 I N=>?_);have P:=(q.trans i).trans K;clear I;have ay:=Bv _ _ _ _ P N.sl;clear Bv;cbv;exact ay
theorem eJN{x:Int}{b1 I J:Option Addr}{n1 c1 O L M n:Nat}{bs:List sf}(ql:Bm h b1 n1 c1 I O L J P M ⟨x,o,bs,ts⟩)(qc:Sl 161 bz h (.slice b n c) cs)
 (hL:yg ⟨x,o,bs,ts⟩) (ho:o.length<=3) (hc:Dv ⟨x,cs⟩)  (F:eX ⟨x,o,bs,ts⟩ cs=L') 
 (H:∀h' gE vR fH fQ nS gv jo qJ jn b' n' c',Le h h'->Bm h' gE vR fH fQ nS gv jo qJ jn L'->Sl 161 bz h' (.slice b' n' c') cs->k (.tuple #[.agg #[.int .i64 L'.next,.slice gE vR fH,.slice fQ nS gv,.slice jo qJ jn],.agg #[.int .i64 x,.slice b' n' c']]) h'):
 Ct 168 [.agg #[.int .i64 x,.slice b1 n1 c1,.slice I O L,.slice J P M],.slice b n c] h k:=by
 obtain⟨A,hA⟩:=Ar.ex;obtain⟨q1,q2,q3⟩:=ql;have q1:Sl 172 dY h (.slice b1 n1 c1) o:=q1;have q2:Sl 113 dU h (.slice I O L) bs:=q2;have q3:Sl 47 gF h (.slice J P M) ts:=q3;have fh:n1=o.length:=q1.len;have UQ:n=cs.length:=qc.len;have qS:cs.length<=2^30:=hc.len;obtain⟨aw,ar⟩:0<=x/\x<2^40:=hL.nx;have ab:∀t∈o,Dv t:=hL.op;have zR:bs.length<=2^16:=hL.n2;have ni:ts.length<=2^16:=hL.n3;obtain⟨y,Y,nW⟩:∃y:Int,y=x+1/\A .aT .add .i64 x 1=y:=⟨_,rfl,by
  rw[hA.aT];exact IntWalk.i64_in _ (by omega)⟩
 have ag:∀t∈o++[(⟨x,cs⟩:mu)],Dv t:=λt Z=>by
  rcases wy.1 Z with Z|Z
  .exact ab t Z
  rw[SW.1 Z];exact hc
 have an:(o++[(⟨x,cs⟩:mu)]).length=o.length+1:=by simp
 have d:o.length=3->mG ⟨y,o++[⟨x,cs⟩],bs,ts⟩=(L',0)/\L'.next=y:=λN=>by
  unfold eX at F;rw[if_pos (by show 4<=o.length+1;omega)]at F;unfold mG;rw[if_neg (by show ¬(o++[(⟨x,cs⟩:mu)]).length=0;omega),<-F,Y];exact⟨rfl,rfl⟩
 have f:o.length≠3->L'=⟨y,o++[⟨x,cs⟩],bs,ts⟩:=λN=>by
  unfold eX at F;rw[if_neg (by show ¬4<=o.length+1;omega)]at F;rw[<-F,Y]
 clear F;refine fU A [4] (aj eZJ.aw eZJ.bq) Tryz.func168 rfl (by kernel_rfl) ?_;cbv;intro n7 h7 Fy e7;have l7:Le h h7:=by rw[e7];exact Le.set Fy
 clear e7;have B:bt 161 bz h7 h7 (.slice (zsA n7) 0 0) ([]:List cV):=bt.nil;cbv;refine B.append (qc.mono (l7.t _)) (by decide) rfl (by decide) (by omega) (Le.refl _) (λD w z hs ao l4 t4 k4 u4=>?_);rw[np]at u4;have qd:=u4.sl;have ls:=l7.trans l4;have qo:=q1.mono (ls.t _);obtain⟨C,W⟩:∃C:(Option Addr×Nat×Nat)->ad->Prop,∀v h',C v h'=(Le hs h'/\Sl 172 dY h' (.slice v.1 v.2.1 v.2.2) (o++[⟨x,cs⟩])):=⟨_,λ_ _=>rfl⟩;have Q:∀b m c h',Le hs h'->Sl 172 dY h' (.slice b m c) (o++[⟨x,cs⟩])->C (b,m,c) h':=λb m c h' l' q'=>by rw[W];exact⟨l',q'⟩
 clear k4 B t4;cbv;rw[nW];refine ld.go (G:=Option Addr×Nat×Nat) (λ_=>[]) (λv=>[(2,[.int .i64 y,.slice v.1 v.2.1 v.2.2,.slice I O L,.slice J P M]),(4,[.int .i64 0,.slice none 0 0,.slice none 0 0,.slice none 0 0]),(5,[.int .i64 0,.slice none 0 0]),(6,[.int .i64 x,.slice w D z])]) C ?_ ?_
 .clear W d f H;cbv;refine⟨?_,?_⟩
  .skip;intro n8 i pH V;have q:Le hs i:=by rw[V];exact Le.set pH
   clear V;have B:bt 172 dY i i (.slice (zsA n8) 0 0) ([]:List mu):=bt.nil;cbv;refine⟨?_,?_⟩
   .skip;refine B.append (qo.mono (q.t _)) (by decide) rfl (by decide) (by omega) (Le.refl _) (λm5 b5 c5 E JJ l t5 k5 u=>?_);rw[np]at u;clear k5;cbv;intro r a nj e;have l9:Le E a:=by rw[e];exact Le.set nj
    have g:=(q.trans l).trans l9;have v9:Sl 172 dY a (.slice (zsA r) 1 1) [⟨x,cs⟩]:=bf (s:=dY) (cs:=[.int .i64 x,.slice w D z]) ((congrFun e r).trans ae) (⟨_,_,_,rfl,qd.mono ((g).t _)⟩);clear e;cbv;refine(u.mono (l9.t _)).append v9 (by decide) rfl (by decide) (by omega) (l.trans l9) (λm6 S T h6 X p t6 k6 u6=>?_);have zK:=q.trans p;clear k6;have j:=Q _ _ _ _ zK u6.sl;clear Q;cbv;refine⟨(S,m6,T),⟨?_,?_,?_⟩,j⟩<;>cbv
   skip;intro r a nj e;have l9:Le i a:=by rw[e];exact Le.set nj
   have g:=q.trans l9;have v9:Sl 172 dY a (.slice (zsA r) 1 1) [⟨x,cs⟩]:=bf (s:=dY) (cs:=[.int .i64 x,.slice w D z]) ((congrFun e r).trans ae) (⟨_,_,_,rfl,qd.mono ((g).t _)⟩);clear e;have B:bt 172 dY a a (.slice (zsA n8) 0 0) ([]:List mu):=bt.nil;cbv;refine B.append (qo.mono (g.t _)) (by decide) rfl (by decide) (by omega) (Le.refl _) (λm5 b5 c5 E JJ l t5 k5 u=>?_);rw[np]at u;clear k5;cbv;refine u.append (v9.mono (l.t _)) (by decide) rfl (by decide) (by omega) l (λm6 S T h6 X p t6 k6 u6=>?_);have zK:=g.trans p;clear k6;have j:=Q _ _ _ _ zK u6.sl;clear Q;cbv;refine⟨(S,m6,T),⟨?_,?_,?_⟩,j⟩<;>cbv
  skip;intro r a nj e;have g:Le hs a:=by rw[e];exact Le.set nj
  have v9:Sl 172 dY a (.slice (zsA r) 1 1) [⟨x,cs⟩]:=bf (s:=dY) (cs:=[.int .i64 x,.slice w D z]) ((congrFun e r).trans ae) (⟨_,_,_,rfl,qd.mono ((g).t _)⟩);clear e;cbv;intro n8 i pH V;have q:Le a i:=by rw[V];exact Le.set pH
  clear V;have B:bt 172 dY i i (.slice (zsA n8) 0 0) ([]:List mu):=bt.nil;cbv;refine B.append (qo.mono ((g.trans q).t _)) (by decide) rfl (by decide) (by omega) (Le.refl _) (λm5 b5 c5 E JJ l t5 k5 u=>?_);rw[np]at u;clear k5;cbv;refine u.append (v9.mono ((q.trans l).t _)) (by decide) rfl (by decide) (by omega) l (λm6 S T h6 X p t6 k6 u6=>?_);have zK:=(g.trans q).trans p;clear k6;have j:=Q _ _ _ _ zK u6.sl;clear Q;cbv;refine⟨(S,m6,T),⟨?_,?_,?_⟩,j⟩<;>cbv
 intro v E j;rw[W]at j;cbv;obtain⟨vb,vm,vc⟩:=v;obtain⟨l,qv⟩:=j;have qv:Sl 172 dY E (.slice vb vm vc) (o++[⟨x,cs⟩]):=qv;have aq:=qv.len;have K:=ls.trans l;have R:=q2.mono (K.t _);have U:=q3.mono (K.t _);have xM:=qd.mono (l.t _);have f4:A .aN .eql (A .nat vm) 4=decide (o.length=3):=by rw[au A,hA.nat];exact decide_eq_decide.2 (by show(vm:Int)=4↔_;omega)
 rw[f4];by_cases N:o.length=3
 .obtain⟨d,al⟩:=d N;rw[al]at H;rw[ak N];clear f W Q f4;cbv;refine Rv ⟨qv,R,U⟩ ag (by omega) (by omega) (by omega) (λh6 gE vR fH fQ nS gv jo qJ jn p q6=>?_);rw[d]at q6 |-;have:=H h6 gE vR fH fQ nS gv jo qJ jn w D z (K.trans p) q6 (xM.mono (p.t _));clear H;cbv;refine⟨⟨_,rfl,rfl⟩,?_⟩;cbv;exact this
 rw[f N]at H;have:=H E vb vm vc I O L J P M w D z K ⟨qv,R,U⟩ xM;have:k (.tuple #[.agg #[.int .i64 y,.slice vb vm vc,.slice I O L,.slice J P M],.agg #[.int .i64 x,.slice w D z]]) E:=this;rw[bn N];clear f d W Q f4 H;cbv;refine⟨⟨_,rfl,rfl⟩,?_⟩;cbv;exact this
theorem bQg{g:Nat->Int}(w:hl g=aQ s)(I:s.length=32)
 (b:∀h' c n' c',Le h h'->bt 5 cj h h' (.slice c n' c') (gD n s)->n'<=2^28->k (.slice c n' c') h'):
 Ct 84 [.int .i64 n,.agg (hl g).toArray] h k:=by
 have hR:gD n s=([u8 4]++cF n)++s:=rfl;rw[hR]at b;clear hR;refine cg hJC Tryz.func84 λA J=>?_;cbv;intro i a d e1;have f:Le h a:=by rw[e1];exact Le.set d
 have r:a i=zcL 100 (hl g):=(congrFun e1 i).trans ae;clear e1;cbv;refine lu (h0:=a) (l:=[]) bt.nil (Le.refl _) (by omega) 4 (m':=1) rfl (λu j o x K q=>?_);have q:bt 5 cj a u (.slice j 1 o) [u8 4]:=q;cbv;refine sX q x (by omega) n (m':=9) rfl (λH F G e L C=>?_);have t:=e _ _ r;cbv;refine C.app (jR t w I) (by decide) rfl (by decide) (by decide) e (λB m p v E z M y D=>?_);have:=b v m B p (f.trans z) (D.base f) (by omega);clear y b;cbv;exact this
theorem bQe{id:Int}{n:Nat}(q:Sl 161 bz h (.slice b n c) cs)
 (hB:∀x∈cs,yh x) (hn:cs.length<=255) (E:Bool) {gh:Nat->Int}  (aw:hl gh=aQ s) (Ig:s.length=32) 
 (j:∀h' a n' c',Le h h'->bt 5 cj h h' (.slice a n' c') (((iU id cs.length++(cs.mapIdx (dh id)).flatten)++eL id cs)++(if E=true then [u8 1]++s else [u8 0]))->n'<=2^28->k (.slice a n' c') h'):
 Ct 169 [.agg #[.int .i64 id,.slice b n c],.bool E,.agg (hl gh).toArray] h k:=by
 obtain⟨A,hA⟩:=Ar.ex;have v:=q.len;have zO:iU id cs.length=(([]++[u8 3])++cF id)++[u8 (A .nat n)]:=by rw[hA.nat,v];rfl
 have Y:(iU id cs.length).length=10:=by unfold iU;simp[bY]
 obtain⟨H,hH⟩:∃H,H=iU id cs.length:=⟨_,rfl⟩;rw[<-hH]at j zO Y;clear hH;have S:=MC id cs;have W:∀ {i:Nat} {x:cV},cs[i]? =some x->(cs.mapIdx (dh id))[i]? =some (dh id i x):=λh=>by rw[List.getElem?_mapIdx,h];rfl
 have rX:(cs.mapIdx (dh id)).length=cs.length:=List.length_mapIdx;generalize cs.mapIdx (dh id)=M at *;have aA:A .not E= !E:=by rw[hA.not]
 obtain⟨TR,Z⟩:∃TR,TR=eL id cs:=⟨_,rfl⟩;rw[<-Z]at j;refine fz eZI A Tryz.func169 ?_;cbv;intro nh h0 an e0;have y:Le h h0:=by rw[e0];exact Le.set an
 have g0:h0 nh=zcL 100 (hl gh):=(congrFun e0 nh).trans ae;clear e0;have q0:=q.mono (y.t _);obtain⟨J,D⟩:∃J:Nat->((Option Addr×Nat×Nat)×Int)->ad->Prop,∀w g h',J w g h'=(∃i,aZ g.2 i/\w=n-i/\i<=n/\Le h0 h'/\bt 5 cj h0 h' (.slice g.1.1 g.1.2.1 g.1.2.2) (H++(M.take i).flatten)):=⟨_,λ_ _ _=>rfl⟩;cbv;refine lu (h0:=h0) (l:=[]) bt.nil (Le.refl _) (by omega) 3 (m':=1) rfl (λh1 b1 c1 k1 t1 q1=>?_);cbv;refine sX q1 k1 (by omega) id (m':=9) rfl (λh2 b2 c2 k2 t2 q2=>?_);cbv;refine lu q2 k2 (by omega) (A .nat n) (m':=10) rfl (λh3 b3 c3 k3 t3 q3=>?_);rw[<-zO]at q3;have dL:J n ((b3,10,c3),0) h3:=by rw[D];exact⟨0,⟨rfl⟩,rfl,by omega,k3,by rw[List.take_zero,List.flatten_nil,vv];exact q3⟩
 clear q1 q2 q3 zO;cbv;refine aX.go (G:=(Option Addr×Nat×Nat)×Int) (λg=>[(7,.v (.slice g.1.1 g.1.2.1 g.1.2.2)),(8,.v (.int .i64 g.2))]) (λ_=>[(3,[.int .i64 id,.slice b n c])]) (λw g h'=>J w g h') n ((b3,10,c3),0) (by constructor<;>cbv) dL ?_
 intro w g h4 hI;rw[D]at hI;cbv;obtain⟨⟨gb,gm,gc⟩,z⟩:=g;obtain⟨i,d,hw,hi,L,f⟩:=hI;have d:aZ z i:=d;have f:bt 5 cj h0 h4 (.slice gb gm gc) (H++(M.take i).flatten):=f;have nq:=f.sl.len;have aD:=S i;rw[cy,Y]at nq;have f1:A .aN .lss z (A .nat n)=decide (i<n):=by rw[aR A,d.eq,hA.nat];exact decide_eq_decide.2 (by show(i:Int)<(n:Int)↔_;omega)
 rw[f1];by_cases F:i<n
 .rw[ak F];obtain⟨x,hx⟩:=cB cs i;have LI:=hB x (cK hx);have ix:=d.ix F;have iV:b.isSome=true:=q.bp;have aU:n-(i+1)<w:=by omega
  have fT:=lY (W hx);have X:∀a m' c' h',Le h0 h'->bt 5 cj h0 h' (.slice a m' c') (((((H++(M.take i).flatten)++[u8 x.op])++dS x.table)++dS (strOf (gn x.row)))++cU id i x)->J (n-(i+1)) ((a,m',c'),A .aT .add .i64 z 1) h':=λa m' c' h' l' q'=>by
   rw[D];refine⟨i+1,d.succ (A:=A),rfl,F,l',?_⟩;rw[fT,List.flatten_append,jKR,List.flatten_nil,vv];have e:H++((M.take i).flatten++dh id i x)=((((H++(M.take i).flatten)++[u8 x.op])++dS x.table)++dS (strOf (gn x.row)))++cU id i x:=by unfold dh;simp only[ym]
   rw[e];exact q'
  have ht:=fO x.table;have AG:=fO (strOf (gn x.row));have lH:(cU id i x).length=32:=fL _;clear f1 D dL fT W S;generalize H++(M.take i).flatten=P at *;obtain⟨O,xo,r⟩:=x;have aF:r.length<=2^16:=LI.row;obtain⟨C,V⟩:∃C,C=strOf (gn r):=⟨_,rfl⟩;obtain⟨R,m⟩:∃R,R=cU id i ⟨O,xo,r⟩:=⟨_,rfl⟩;have ht:(dS O).length<=65537:=ht;have AG:(dS C).length<=65537:=by rw[V];exact AG
  have lH:R.length=32:=by rw[m];exact lH
  have X:∀a m' c' h',Le h0 h'->bt 5 cj h0 h' (.slice a m' c') ((((P++[u8 xo])++dS O)++dS C)++R)->J (n-(i+1)) ((a,m',c'),A .aT .add .i64 z 1) h':=by rw[V,m];exact X
  cbv;refine⟨⟨iV,ix⟩,?_⟩;cbv;refine(q0.mono (L.t _)).load hx d.eq (λcs' ar=>?_);obtain⟨rb,rn,rc,rfl,N⟩:=ar;have N:Sl 45 bA h4 (.slice rb rn rc) r:=N;have AH:=N.len;obtain⟨m5,Kg⟩:∃m5,m5=gm+1:=⟨_,rfl⟩;cbv;refine lu f L (by omega) xo Kg (λh5 b5 c5 k5 t5 q5=>?_);have zI:=N.mono (t5 _ (by decide));cbv;refine uk q5 k5 (by omega) O (λm6 QJ h6 b6 c6 k6 t6 q6=>?_);have xL:=zI.mono (t6 _ (by decide));cbv;refine IC xL (by omega) (λh7 b7 m7 c7 l7 q7 aG=>?_);have ay:=q6.mono (l7.t _);have WR:=xL.mono (l7.t _);cbv;refine rh q7.sl ?_;rw[<-V];cbv;refine uk ay (k6.trans l7) (by omega) C (λm8 ao h8 b8 c8 k8 t8 B=>?_);have ag:=WR.mono (t8 _ (by decide));have aE:=B.sl.len;cbv;refine Rx d ag (by omega) (λt g l9 u=>?_);rw[<-m]at u;have ax:=B.mono (l9.t _);have o:=k8.trans l9;cbv;intro T I zg qF;have gB:Le t I:=by rw[qF];exact Le.set zg
  have Mj:I T=zcL 100 (List.replicate 32 (.int .u8 0)):=(congrFun qF T).trans ae;have z9:=zg;clear qF;cbv;refine ju Mj (kB _) (λoM U=>?_);have al:=rf U (wX _ _);have Lz:Le t oM:=gB.aV (bs:=[T]) (by simpa using z9) (by rw[U];exact Kp.set (by simp));clear U;have uX:=ax.mono (Lz.t _);cbv;refine uX.app (jR al u lH) (by decide) rfl (by decide) (by omega) (o.trans Lz) (λQ K Zx tA aC fa aI ab Ka=>?_);have iD:=X K Q Zx tA fa Ka;clear X ab;cbv;refine⟨_,((K,Q,Zx),A .aT .add .i64 z 1),aU,by constructor<;>cbv,iD⟩
 rw[bn F];rw[ie (by omega)]at f;have aq:=S cs.length;rw[ie (by omega)]at aq;have nq:=f.sl.len;rw[cy,Y]at nq;clear D dL W S;cbv;refine Na (q0.mono (L.t _)) (λx hx=>(hB x hx).row) (by omega) (λh5 g l5 u oU=>?_);rw[<-Z]at u oU;have q5:=f.mono (l5.t _);have Oj:=L.trans l5;cbv;intro n6 h6 LS e6;have l6:Le h5 h6:=by rw[e6];exact Le.set LS
 have g6:h6 n6=zcL 100 (List.replicate 32 (.int .u8 0)):=(congrFun e6 n6).trans ae;have z6:=LS;clear e6;cbv;refine ju g6 (kB _) (λh7 e7=>?_);have g7:=rf e7 (wX _ _);have Oi:Le h5 h7:=l6.aV (bs:=[n6]) (by simpa using z6) (by rw[e7];exact Kp.set (by simp));clear e7;have q7:=q5.mono (Oi.t _);cbv;refine q7.app (jR g7 u oU) (by decide) rfl (by decide) (by omega) (Oj.trans Oi) (λm8 b8 c8 h8 ao l8 t8 k8 B=>?_);clear k8;have g8:=l8 _ _ g0;obtain⟨m9,p⟩:∃m9,m9=m8+1:=⟨_,rfl⟩;cbv;rw[aA];cases E with
 |false=>cbv;refine lu B l8 (by omega) 0 p (λt b9 c9 o t9 q9=>?_);have:=j t b9 m9 c9 (y.trans o) (q9.base y) (by omega);clear j;cbv;exact this
 |true=>cbv;refine lu B l8 (by omega) 1 p (λt b9 c9 o t9 q9=>?_);have g9:=o _ _ g0;cbv;refine q9.app (jR g9 aw Ig) (by decide) rfl (by decide) (by omega) o (λHL Ed Iw I aB gB aH AD zJ=>?_);have:=j I Ed HL Iw (y.trans gB) (by rw[show(if true=true then [u8 1]++s else [u8 0])=[u8 1]++s from rfl,<-ym];exact zJ.base y) (by omega);clear j AD;cbv;exact this
abbrev KX:List Nat:=197::aXX
theorem aXr{bs:List sf}(h:eX ⟨n,o,bs,ts⟩ cs=L'):jZ L'=if decide (bs.length<L'.dJ.length)=true then [u8 1]++(cW L'.dJ).2.1 else [u8 0]:=by
 subst h;unfold eX;by_cases a:4<=o.length+1
 .rw[if_pos (show 4<=(⟨n,o,bs,ts⟩:fA).oR.length+1 from a)];have e:(dq ⟨n+1,o++[⟨n,cs⟩],bs,ts⟩).dJ.length=bs.length+1:=by show(bs++[_]).length=_;simp
  have b:(dq (⟨n+1,o++[⟨n,cs⟩],bs,ts⟩:fA)).oR=[]:=rfl;show jZ (dq ⟨n+1,o++[⟨n,cs⟩],bs,ts⟩)=_;rw[show decide (bs.length<(dq (⟨(⟨n,o,bs,ts⟩:fA).next+1,(⟨n,o,bs,ts⟩:fA).oR++[⟨(⟨n,o,bs,ts⟩:fA).next,cs⟩],(⟨n,o,bs,ts⟩:fA).dJ,(⟨n,o,bs,ts⟩:fA).Es⟩:fA)).dJ.length)=true from ak (by rw[show(dq (⟨(⟨n,o,bs,ts⟩:fA).next+1,(⟨n,o,bs,ts⟩:fA).oR++[⟨(⟨n,o,bs,ts⟩:fA).next,cs⟩],(⟨n,o,bs,ts⟩:fA).dJ,(⟨n,o,bs,ts⟩:fA).Es⟩:fA)).dJ.length=bs.length+1 from e];omega)];unfold jZ;rw[if_neg (by rw[b];decide)];rfl
 rw[if_neg (show ¬4<=(⟨n,o,bs,ts⟩:fA).oR.length+1 from a)];rw[if_neg (by simp)];unfold jZ;rw[if_pos (by show 0<(o++[_]).length;simp)]
theorem tM{t:Nat}{cs:List Value}(g:h t=zcL 197 cs)(a:h'=bL h t (.cells (List.toArray cs') 197 (0,0))):
 h' t=zcL 197 cs'/\dX [197] h h':=by
 subst a;exact⟨ae,gN g (by decide)⟩
theorem cZw{t:Nat}(q:yd nH h t p G d L)(hl:LB G.D)(gL:d.ao.Pairwise (λa b=>dA a.S.name b.S.name<0))(Yr:d.ao.length<=8)(nm:ByteArray)(hs:G.s<=64*(G.D.now.length-1))(hn:G.n<=2^29)(hw:G.D.ws.length<=2^28)
 (c:∀h',dX KX h h'->yd nH h' t p (nG G d nm).2.1 (nG G d nm).2.2 L->k (.int .i64 (nG G d nm).1) h'):
 Ct 68 [.zP t,.string nm] h k:=by
 have f:nG G d nm=Nv G d (eD d nm) (fo nm):=rfl;obtain⟨m,Z,n1,c1,b2,n2,c2,b3,n3,c3,b4,n4,c4,e1,O,z,F,P,B,H,Q,E,g,ql,qk,qd,qL⟩:=q.out;obtain⟨S,op,bs,ts⟩:=L;have g:h t=zcL 197 [.zP m,.slice Z n1 c1,.slice b2 n2 c2,.slice b3 n3 c3,.slice b4 n4 c4,.int .i64 S,.slice e1 O z,.slice F P B,.slice H Q E]:=g;refine cg hJO Tryz.func68 λA hA=>?_;cbv;rw[av A];refine cr g ?_;cbv;refine aKf qd gL Yr nm rfl (λh3 gE vR fH fQ nS gv jo qJ jn U V uV v I=>?_);have T:=q.le v;have g3:=v _ _ g;generalize eD d nm=C at *;obtain⟨D,s⟩:=C;have I:RP h3 gE vR fH fQ nS gv jo qJ jn U V uV D:=I;have j:A .aN .eql s 0=decide (s=0):=au A ..;by_cases u:s=0
 .have f:nG G d nm=((aY G (fo nm)).1,(aY G (fo nm)).2,if(aY G (fo nm)).1=0 then D else d):=by rw[f];exact if_neg (λh=>h u)
  rw[f]at c;rw[ak u]at j;clear f;cbv;rw[j];cbv;rw[av A];refine cr g3 ?_;cbv;refine aQf nm (λh4 rb rn rc N q4 AH=>?_);have g4:=N _ _ g3;have y:=v.trans N;generalize fo nm=rec at *;cbv;refine cr g4 ?_;cbv;refine⟨⟨_,rfl,rfl⟩,?_⟩;cbv;refine Bn (qk.le y) hl (ql.lt (y.t _)) q4.sl hs hn AH hw (λi x o w=>?_);have K:=x _ _ g4 (λ_ _ _ l=>by cases l;decide);have xM:=(qd.lt (y.t _)).lt (x.t (by decide));have J:=(I.lt (N.t _)).lt (x.t (by decide));have W:=(qL.ls (y.t _)).ls (x.t (by decide));have Y:dX KX h i:=(y.x _).trans (x.sup (by decide));generalize aY G rec=R at *;obtain⟨e,r⟩:=R;have o:nv nH i p r.D:=o;have w:Rt nH i m p (r.s:Int) (r.n:Int):=w;have X:A .aN .eql e 0=decide (e=0):=au A ..;by_cases l:e=0
  .subst l;have c:∀h',dX KX h h'->yd nH h' t p r D ⟨S,op,bs,ts⟩->k (.int .i64 0) h':=c;have fin:∀h',h'=bL i t (.cells #[.zP m,.slice gE vR fH,.slice fQ nS gv,.slice jo qJ jn,.slice U V uV,.int .i64 S,.slice e1 O z,.slice F P B,.slice H Q E] 197 (0,0))->k (.int .i64 0) h':=λh' M=>by
    obtain⟨g6,n⟩:=tM K M;exact c h' (Y.trans (n.sup (by decide))) ⟨⟨m,_,_,_,_,_,_,_,_,_,_,_,_,_,_,_,_,_,_,_,_,_,g6,w.lt (n.t (by decide)),o.lt (n.t (by decide)) (nC _),J.lt (n.t (by decide)),W.ls (n.t (by decide))⟩,q.new⟩
   clear c T;cbv;rw[X];cbv;repeat rw[av A]
   refine ju K (by simp) (λh6 M=>?_);have:=fin h6 M;clear fin;cbv;exact this
  have:=c i Y ⟨⟨m,Z,n1,c1,b2,n2,c2,b3,n3,c3,b4,n4,c4,e1,O,z,F,P,B,H,Q,E,K,w,o,by show RP i _ _ _ _ _ _ _ _ _ _ _ _ (if e=0 then D else d);rw[if_neg l];exact xM,W⟩,q.new⟩;rw[bn l]at X;clear c T;cbv;rw[X];cbv;exact this
 have f:nG G d nm=(s,G,d):=by rw[f];exact if_pos u
 rw[f]at c;rw[bn u]at j;have:=c h3 (v.x _) T;clear c f;cbv;rw[j];cbv;rw[j];cbv;exact this
theorem aQh{t:Nat}(q:yd nH h t p G d L)(s:Int)(ab:-2^63<=s/\s<2^63)(hI:SI d)(lb:yg L)(DP:L.oR.length<=3)(qS:(bZ d s).2.1.length<=255)(Ki:∀c∈(bZ d s).2.1,yh c)
 (FE:LB G.D) (hs:G.s<=64*(G.D.now.length-1)) (hn:G.n<=2^29) (hw:G.D.ws.length<=2^28) {W:Int×Int×Lg×DB×fA} (a:oe G d L s=W) 
 (B:∀h',dX KX h h'->yd nH h' t p W.2.2.1 W.2.2.2.1 W.2.2.2.2->k (.tuple #[.int .i64 W.1,.int .i64 W.2.1]) h'):
 Ct 66 [.zP t,.int .i64 s] h k:=by
 obtain⟨m,b1,n1,c1,b2,n2,c2,b3,n3,c3,b4,n4,c4,e1,X,O,T,y,P,U,m3,S,g,ql,qk,qd,qL⟩:=q.out;unfold oe at a;obtain⟨n,o,bs,ts⟩:=L;obtain⟨C,hC⟩:∃C,bZ d s=C:=⟨_,rfl⟩;rw[hC]at a qS Ki;obtain⟨D1,cs,ce⟩:=C;have a:(if ce≠0 then((0,ce,G,d,⟨n,o,bs,ts⟩):Int×Int×Lg×DB×fA)
  else if cs.length=0 then(-1,0,G,D1,⟨n,o,bs,ts⟩)
  else if(aY G (iK ⟨n,cs⟩ (eX ⟨n,o,bs,ts⟩ cs))).1=0 then(n,0,(aY G (iK ⟨n,cs⟩ (eX ⟨n,o,bs,ts⟩ cs))).2,D1,eX ⟨n,o,bs,ts⟩ cs)
  else(0,(aY G (iK ⟨n,cs⟩ (eX ⟨n,o,bs,ts⟩ cs))).1,(aY G (iK ⟨n,cs⟩ (eX ⟨n,o,bs,ts⟩ cs))).2,(cN d s).1,⟨n,o,bs,ts⟩))=W:=a
 have qS:cs.length<=255:=qS;have Ki:∀c∈cs,yh c:=Ki;have DP:o.length<=3:=DP;have zN:y=bs.length:=qL.dJ.len;have g:h t=zcL 197 [.zP m,.slice b1 n1 c1,.slice b2 n2 c2,.slice b3 n3 c3,.slice b4 n4 c4,.int .i64 n,.slice e1 X O,.slice T y P,.slice U m3 S]:=g;refine cg hJQ Tryz.func66 λA hA=>?_;cbv;rw[av A];refine cr g ?_;cbv;refine Zn qd hI s ab hC (λh1 y1 x1 z1 y2 x2 z2 y3 x3 z3 y4 x4 z4 y5 x z5 w Ql v=>?_);have Ql:RP h1 y1 x1 z1 y2 x2 z2 y3 x3 z3 y4 x4 z4 D1:=Ql;have v:Sl 161 bz h1 (.slice y5 x z5) cs:=v;have LU:x=cs.length:=v.len;have q1:=q.le w;have g1:=w _ _ g;have fe:A .aN .neq ce 0=decide (ce≠0):=az A ..;have fl:A .aN .eql (A .nat x) 0=decide (cs.length=0):=by rw[au A,hA.nat];exact decide_eq_decide.2 (by show(x:Int)=0↔_;omega)
 cbv;rw[fe];by_cases hc:ce≠0
 .rw[if_pos hc]at a;subst a;have:=B h1 (w.x _) q1;rw[ak hc];clear B;cbv;exact this
 rw[if_neg hc]at a;rw[bn hc];clear fe hC;cbv;rw[fl];by_cases JC:cs.length=0
 .rw[if_pos JC]at a;subst a;have fin:∀h',h'=bL h1 t (.cells #[.zP m,.slice y1 x1 z1,.slice y2 x2 z2,.slice y3 x3 z3,.slice y4 x4 z4,.int .i64 n,.slice e1 X O,.slice T y P,.slice U m3 S] 197 (0,0))->k (.tuple #[.int .i64 (-1),.int .i64 0]) h':=λh' f=>by
   obtain⟨u,H⟩:=tM g1 f;exact B h' ((w.x _).trans (H.sup (by decide))) ⟨⟨m,_,_,_,_,_,_,_,_,_,_,_,_,_,_,_,_,_,_,_,_,_,u,(ql.lt (w.t _)).lt (H.t (by decide)),(qk.le w).lt (H.t (by decide)) (nC _),Ql.lt (H.t (by decide)),(qL.ls (w.t _)).ls (H.t (by decide))⟩,q.new⟩
  rw[ak JC];clear B;cbv;repeat rw[av A]
  refine ju g1 (by simp) (λi f=>?_);have:=fin i f;clear fin;cbv;exact this
 rw[if_neg JC]at a;obtain⟨L',hL⟩:∃L',eX ⟨n,o,bs,ts⟩ cs=L':=⟨_,rfl⟩;have zM:=aXr hL;have J:L'.dJ.length<=2^20:=by
  have h2:bs.length<=2^16:=lb.n2;rw[<-hL];unfold eX dq;split
  .show(bs++_).length<=_;rw[cy,qA];omega
  show bs.length<=_;omega
 rw[hL]at a;have N:iK ⟨n,cs⟩ L'=((iU n cs.length++(cs.mapIdx (dh n)).flatten)++eL n cs)++(if decide (bs.length<L'.dJ.length)=true then [u8 1]++(cW L'.dJ).2.1 else [u8 0]):=by rw[<-zM];rfl
 have oU:=jH L'.dJ;obtain⟨M,OV⟩:∃M,decide (bs.length<L'.dJ.length)=M:=⟨_,rfl⟩;rw[OV]at N;rw[bn JC];clear zM fl;cbv;rw[av A];refine cr g1 ?_;cbv;refine eJN (qL.ls (w.t _)) v lb DP ⟨by show cs.length<=2^30;omega,Ki⟩ hL (λh2 f1 p1 r1 f2 p2 r2 f3 p3 r3 f4 p4 r4 l2 ag al=>?_);have fa:=w.trans l2;have g2:=l2 _ _ g1;have Q:=ag.dJ;have zd:p2=L'.dJ.length:=Q.len;obtain⟨NW,Qr,Y,D⟩:=L';have ar:A .aN .gtr (A .nat p2) (A .nat y)=M:=by rw[bC A,hA.nat];exact(decide_eq_decide.2 (by show(p2:Int)>(y:Int)↔bs.length<Y.length;have:p2=Y.length:=zd;omega)).trans OV
 have Q:Sl 113 dU h2 (.slice f2 p2 r2) Y:=Q;have J:Y.length<=2^20:=J;have oU:(cW Y).2.1.length=32:=oU;have N:iK ⟨n,cs⟩ ⟨NW,Qr,Y,D⟩=((iU n cs.length++(cs.mapIdx (dh n)).flatten)++eL n cs)++(if M=true then [u8 1]++(cW Y).2.1 else [u8 0]):=N;obtain⟨E,hE⟩:∃E,E=cW Y:=⟨_,rfl⟩;rw[<-hE]at N oU;obtain⟨z,Bt⟩:∃z,z=iK ⟨n,cs⟩ ⟨NW,Qr,Y,D⟩:=⟨_,rfl⟩;rw[<-Bt]at N a;clear OV;cbv;repeat (first|rw[av A] | (refine cr g2 ?_;cbv)|(refine⟨⟨_,rfl,rfl⟩,?_⟩;cbv))
 rw[ar];refine bZn Q J (λh3 gd l3 DS=>?_);rw[<-hE]at DS |-;obtain⟨en,r,ee⟩:=E;have DS:hl gd=aQ r:=DS;have oU:r.length=32:=oU;have N:z=((iU n cs.length++(cs.mapIdx (dh n)).flatten)++eL n cs)++(if M=true then [u8 1]++r else [u8 0]):=N;have g3:=l3 _ _ g2;have ng:=fa.trans l3;cbv;repeat (first|rw[av A] | (refine cr g3 ?_;cbv)|(refine⟨⟨_,rfl,rfl⟩,?_⟩;cbv))
 refine bQe (id:=n) (al.mono (l3.t _)) Ki qS M DS oU (λh4 rb rn rc l4 qr AH=>?_);rw[<-N]at qr;have rE:=ng.trans l4;have g4:=l4 _ _ g3;cbv;repeat (first|rw[av A] | (refine cr g4 ?_;cbv)|(refine⟨⟨_,rfl,rfl⟩,?_⟩;cbv))
 refine Bn (qk.le rE) FE (ql.lt (rE.t _)) qr.sl hs hn AH hw (λh5 x CL xf=>?_);have g5:=x _ _ g4 (λ_ _ _ V=>by cases V;decide);have xM:=(qd.lt (rE.t _)).lt (x.t (by decide));have ao:=(Ql.lt ((l2.trans (l3.trans l4)).t _)).lt (x.t (by decide));have Jd:=(qL.ls (rE.t _)).ls (x.t (by decide));have an:=(ag.ls ((l3.trans l4).t _)).ls (x.t (by decide));have Vl:dX KX h h5:=(rE.x _).trans (x.sup (by decide));clear qr al Q Bt;generalize aY G z=R at *;obtain⟨e,G2⟩:=R;have CL:nv nH h5 p G2.D:=CL;have xf:Rt nH h5 m p (G2.s:Int) (G2.n:Int):=xf;have a:(if e=0 then((n,0,G2,D1,⟨NW,Qr,Y,D⟩):Int×Int×Lg×DB×fA)else(0,e,G2,(cN d s).1,⟨n,o,bs,ts⟩))=W:=a;have fr:A .aN .neq e 0=decide (e≠0):=az A ..;cbv;rw[fr];by_cases V:e=0
 .rw[if_pos V]at a;subst a;rw[bn (λg=>g V)];have fin:∀i b,i=bL h5 t (.cells #[.zP m,.slice y1 x1 z1,.slice y2 x2 z2,.slice y3 x3 z3,.slice y4 x4 z4,.int .i64 n,.slice e1 X O,.slice T y P,.slice U m3 S] 197 (0,0))->
   b=bL i t (.cells #[.zP m,.slice y1 x1 z1,.slice y2 x2 z2,.slice y3 x3 z3,.slice y4 x4 z4,.int .i64 NW,.slice f1 p1 r1,.slice f2 p2 r2,.slice f3 p3 r3] 197 (0,0))->k (.tuple #[.int .i64 n,.int .i64 0]) b:=λi b f aq=>by
   obtain⟨u,H⟩:=tM g5 f;obtain⟨g7,I⟩:=tM u aq;have K:=H.trans I;exact B b (Vl.trans (K.sup (by decide))) ⟨⟨m,_,_,_,_,_,_,_,_,_,_,_,_,_,_,_,_,_,_,_,_,_,g7,xf.lt (K.t (by decide)),CL.lt (K.t (by decide)) (nC _),ao.lt (K.t (by decide)),an.ls (K.t (by decide))⟩,q.new⟩
  clear B;cbv;repeat rw[av A]
  refine ju g5 (by simp) (λi f=>?_);have u:i t=zcL 197 [.zP m,.slice y1 x1 z1,.slice y2 x2 z2,.slice y3 x3 z3,.slice y4 x4 z4,.int .i64 n,.slice e1 X O,.slice T y P,.slice U m3 S]:=(congrFun f t).trans ae;have fin:=λb=>fin i b f;clear f;cbv;repeat (first|rw[av A] | (refine⟨⟨_,rfl,rfl⟩,?_⟩;cbv))
  refine ju u (by simp) (λb f=>?_);have:=fin b f;clear fin f;cbv;exact this
 rw[if_neg V]at a;subst a;rw[ak V];have fin:∀i b a1 a2 a3 a4 a5 a6 a7 a8 a9 l j Z,Le h5 i->RP i a1 a2 a3 a4 a5 a6 a7 a8 a9 l j Z (cN d s).1->i t=zcL 197 [.zP m,.slice b1 n1 c1,.slice b2 n2 c2,.slice b3 n3 c3,.slice b4 n4 c4,.int .i64 n,.slice e1 X O,.slice T y P,.slice U m3 S]->
  b=bL i t (.cells #[.zP m,.slice a1 a2 a3,.slice a4 a5 a6,.slice a7 a8 a9,.slice l j Z,.int .i64 n,.slice e1 X O,.slice T y P,.slice U m3 S] 197 (0,0))->k (.tuple #[.int .i64 0,.int .i64 e]) b:=λi b a1 a2 a3 a4 a5 a6 a7 a8 a9 l j Z F WT u f=>by
  obtain⟨g7,I⟩:=tM u f;exact B b (Vl.trans ((F.x _).trans (I.sup (by decide)))) ⟨⟨m,_,_,_,_,_,_,_,_,_,_,_,_,_,_,_,_,_,_,_,_,_,g7,(xf.lt (F.t _)).lt (I.t (by decide)),(CL.le F).lt (I.t (by decide)) (nC _),WT.lt (I.t (by decide)),(Jd.ls (F.t _)).ls (I.t (by decide))⟩,q.new⟩
 clear B;cbv;rw[av A];refine cr g5 ?_;cbv;refine yU xM hI s ab rfl (λi a1 a2 a3 a4 a5 a6 a7 a8 a9 l j Z F WT=>?_);have fin:=fin i;have u:=F _ _ g5;generalize cN d s=RB at *;obtain⟨RD,aw⟩:=RB;have fin:=λb=>fin b a1 a2 a3 a4 a5 a6 a7 a8 a9 l j Z F WT u;cbv;repeat rw[av A]
 refine ju u (by simp) (λb f=>?_);have:=fin b f;clear fin f;cbv;exact this
def zx(G:Lg)(L:fA):(Int×Bs×Int)×Lg×fA:=
 if L.oR.length=0 then(cW L.dJ,G,L)
 else if(aY G (gD (cW (dq L).dJ).1 (cW (dq L).dJ).2.1)).1=0 then(cW (dq L).dJ,(aY G (gD (cW (dq L).dJ).1 (cW (dq L).dJ).2.1)).2,dq L)
 else((0,List.replicate 32 0,(aY G (gD (cW (dq L).dJ).1 (cW (dq L).dJ).2.1)).1),(aY G (gD (cW (dq L).dJ).1 (cW (dq L).dJ).2.1)).2,L)
theorem bQy{g:Nat->Int}(v:hl g=aQ s)(I:s.length=32)
 (c:∀h' i n' c',Le h h'->bt 5 cj h h' (.slice i n' c') (gD n s)->n'<=2^28->k (.slice i n' c') h'):
 Ct 80 [.agg (.int .i64 n::hl g).toArray] h k:=by
 have hR:gD n s=(([]++[u8 4])++cF n)++s:=rfl;rw[hR]at c;clear hR;refine cg hJG Tryz.func80 λA P=>?_;cbv;intro f b d e1;have j:Le h b:=by rw[e1];exact Le.set d
 have a:b f=zcL 102 (.int .i64 n::hl g):=(congrFun e1 f).trans ae;have D:Sl 102 cj b (.slice (some ⟨f,1,none⟩) 32 32) s:=xg (o:=1) (x:=s) a (by rw[<-v];rfl) I;clear e1;cbv;repeat rw[av A]
 refine cr a ?_;cbv;refine pf (l:=[]) Sl.nil (by omega) 4 (λL G Q J e q=>?_);have E:=q.sl.len;rw[np,qA]at E;have t:=e _ _ a;cbv;repeat (first|rw[av A] | (refine cr t ?_;cbv)|(refine⟨⟨_,rfl,rfl⟩,?_⟩;cbv))
 refine Nc q.sl (by omega) n (λM H R K y m=>?_);have N:=m.sl.len;rw[cy,bY,np,qA]at N;have O:=e.trans y;cbv;refine(m.base e).app (D.mono (O.t _)) (by decide) rfl (by decide) (by omega) O (λB p r u F z S w C=>?_);have:=c u p B r (j.trans z) (C.base j) (by omega);clear w c;cbv;exact this
theorem aQr{x:Int}{i:Option Addr}{q d r:Nat}{bs:List sf}(t:Sl 224 dU h (.slice b d c) bs)(o:bs.length<=2^20)(E:cW bs=(n,s,e))
 (p:∀h' g,Le h h'->hl g=aQ s->k (.tuple #[.agg (.int .i64 n::hl g).toArray,.int .i64 e]) h'):
 Ct 79 [.agg #[.int .i64 x,.slice f q j,.slice b d c,.slice i r m]] h k:=
 RC t o (λh' g l a=>by rw[E]at a |-;exact p h' g l a)
theorem aQg{x:Int}{i:Option Addr}{q d r:Nat}{bs:List sf}(t:Sl 113 dU h (.slice b d c) bs)(o:bs.length<=2^20)(E:cW bs=(n,s,e))
 (p:∀h' g,Le h h'->hl g=aQ s->k (.tuple #[.agg (.int .i64 n::hl g).toArray,.int .i64 e]) h'):
 Ct 82 [.agg #[.int .i64 x,.slice f q j,.slice b d c,.slice i r m]] h k:=
 bZn t o (λh' g l a=>by rw[E]at a |-;exact p h' g l a)
theorem Gh(h:L.dJ.length<=2^16):(dq L).dJ.length<=2^20:=by unfold dq;show(L.dJ++[_]).length<=_;rw[cy,qA];omega
theorem cZF{s:Nat}(q:tD h s p G d L)(lb:yg L)(hs:G.s<=2^29)(hn:G.n<=2^29)(hw:G.D.ws.length<=2^28){W:(Int×Bs×Int)×Lg×fA}(b:zx G L=W)
 (j:∀h' g,dX IK h h'->tD h' s p W.2.1 d W.2.2->hl g=aQ W.1.2.1->k (.tuple #[.agg (.int .i64 W.1.1::hl g).toArray,.int .i64 W.1.2.2]) h'):
 Ct 27 [.zP s] h k:=by
 obtain⟨A,hA⟩:=Ar.ex;obtain⟨Oh,Od,Og,Jn,Ni,Nj,Gy,Oc,Of,qw,Z⟩:=q.out;obtain⟨g,x,qs,ql,qk,qx⟩:=qw.out;obtain⟨d1,m1,e1,d2,m2,e2,d3,m3,e3,d4,m4,e4,v,qd⟩:=qx.out;have Y:=Gh (L:=L) lb.n2;have Du:=lb.n2;obtain⟨f,t⟩:∃f,dq L=f:=⟨_,rfl⟩;obtain⟨c,K,C,y⟩:=L;have zS:A .aN .eql 0 0=true:=by rw[au A];rfl
 have ax:A .aN .eql 2 0=false:=by rw[au A];rfl
 have v:h x=zcL 150 [.slice d1 m1 e1,.slice d2 m2 e2,.slice d3 m3 e3,.slice d4 m4 e4,.int .i64 c,.slice Oh Od Og,.slice Jn Ni Nj,.slice Gy Oc Of]:=v;have Du:C.length<=2^16:=Du;unfold zx at b;rw[t]at b Y;obtain⟨⟨aC,aB,aD⟩,J⟩:∃X,cW C=X:=⟨_,rfl⟩;obtain⟨⟨e,a,ee⟩,T⟩:∃X,cW f.dJ=X:=⟨_,rfl⟩;have oU:a.length=32:=by have:=jH f.dJ;rw[T]at this;exact this
 rw[T]at b;have b:(if K.length=0 then(cW C,G,(⟨c,K,C,y⟩:fA))else if(aY G (gD e a)).1=0 then((e,a,ee),(aY G (gD e a)).2,f)else((0,List.replicate 32 0,(aY G (gD e a)).1),(aY G (gD e a)).2,⟨c,K,C,y⟩))=W:=b;rw[J]at b;have F:K.length=0->mG ⟨c,K,C,y⟩=(⟨c,K,C,y⟩,2):=λh0=>by
  unfold mG;rw[if_pos h0]
 have o:¬K.length=0->mG ⟨c,K,C,y⟩=(f,0):=λh0=>by
  unfold mG;rw[if_neg h0,t]
 obtain⟨E,I⟩:∃E,mG ⟨c,K,C,y⟩=E:=⟨_,rfl⟩;rw[I]at F o;refine fz hKw A Tryz.func27 ?_;cbv;rw[av A];refine yJ (cm qs.out rfl) v rfl ?_;cbv;repeat (first|rw[av A] | (refine cr v ?_;cbv)|(refine⟨⟨_,rfl,rfl⟩,?_⟩;cbv))
 refine RE Z lb I (λh1 a1 f1 r1 a2 H S a3 f3 r3 l DG=>?_);have q1:=q.le l;have Mh:=l _ _ v;have aq:=l _ _ qs.out;by_cases M:K.length=0
 .rw[if_pos M]at b;have F:=F M;subst F;subst b;have V:=(Z.le l).dJ;have V:Sl 224 dU h1 (.slice Jn Ni Nj) C:=V;clear o I;cbv;rw[ax];cbv;rw[av A];refine yJ (cm aq rfl) Mh rfl ?_;cbv;repeat (first|rw[av A] | (refine cr Mh ?_;cbv)|(refine⟨⟨_,rfl,rfl⟩,?_⟩;cbv))
  refine aQr V (by omega) J (λh2 gd m U=>?_);have:=j h2 gd ((l.trans m).x _) (q1.le m) U;clear j;cbv;exact this
 rw[if_neg M]at b;have o:=o M;subst o;obtain⟨P,Vd,i,u⟩:=f;have aw:Sl 224 dU h1 (.slice a2 H S) i:=DG.dJ;have Y:i.length<=2^20:=Y;have T:cW i=(e,a,ee):=T;clear F I;cbv;rw[zS];cbv;refine aQr aw Y T (λh2 gd m U=>?_);have fa:=l.trans m;have Mg:=m _ _ Mh;have ab:=DG.le m;cbv;repeat (first|rw[av A] | (refine cr Mg ?_;cbv)|(refine⟨⟨_,rfl,rfl⟩,?_⟩;cbv))
 refine bQy (n:=e) U oU (λh3 rb rn rc l3 qr AH=>?_);have O:=fa.trans l3;have Bx:=l3 _ _ Mg;have q3:=qw.lx O;have DI:=qd.mono O;have al:=ab.le l3;have ag:=Z.le O;generalize gD e a=rec at *;cbv;repeat (first|rw[av A] | (refine cr Bx ?_;cbv)|(refine⟨⟨_,rfl,rfl⟩,?_⟩;cbv))
 refine bZc q3 qr.sl hs hn AH hw DI (L':=(.int .i64 P,.slice a1 f1 r1,.slice a2 H S,.slice a3 f3 r3)) (λz x4 w=>?_);have Q:=al.ls (x4.t (by decide));have an:=ag.ls (x4.t (by decide));have PH:dX IK h z:=(O.x _).trans x4;clear qr;generalize aY G rec=R at *;obtain⟨r,D⟩:=R;have w:Da z s p D (if r=0 then d else d) (if r=0 then(.int .i64 P,.slice a1 f1 r1,.slice a2 H S,.slice a3 f3 r3)else(.int .i64 c,.slice Oh Od Og,.slice Jn Ni Nj,.slice Gy Oc Of)):=w;have b:(if r=0 then((e,a,ee),D,(⟨P,Vd,i,u⟩:fA))else((0,List.replicate 32 0,r),D,⟨c,K,C,y⟩))=W:=b;have fr:A .aN .neq r 0=decide (r≠0):=az A ..;have wd:(if r=0 then d else d)=d:=by split<;>rfl
 rw[wd]at w;by_cases N:r=0
 .rw[if_pos N]at b w;subst b;rw[bn (λg=>g N)]at fr;obtain⟨g4,y4,ao,aE,UJ,tg⟩:=w.out;obtain⟨_,_,_,_,_,_,_,_,_,_,_,_,B,-⟩:=tg.out;have ar:Sl 224 dU z (.slice a2 H S) i:=Q.dJ;have q4:tD z s p D d ⟨P,Vd,i,u⟩:=⟨_,_,_,_,_,_,_,_,_,w,Q⟩;cbv;rw[fr];cbv;rw[av A];refine yJ (cm ao.out rfl) B rfl ?_;cbv;repeat (first|rw[av A] | (refine cr B ?_;cbv)|(refine⟨⟨_,rfl,rfl⟩,?_⟩;cbv))
  refine aQr ar Y T (λh5 aA l5 ay=>?_);have:=j h5 aA (PH.trans (l5.x _)) (q4.le l5) ay;clear j;cbv;exact this
 rw[if_neg N]at b w;subst b;rw[ak N]at fr;have:=j z (λ_=>0) PH ⟨_,_,_,_,_,_,_,_,_,w,an⟩ rfl;clear j;cbv;rw[fr];cbv;exact this
theorem eJM{t:Nat}(q:yd nH h t p G d L)(u:yg L)(FE:LB G.D)(hs:G.s<=64*(G.D.now.length-1))(hn:G.n<=2^29)(hw:G.D.ws.length<=2^28){W:(Int×Bs×Int)×Lg×fA}(a:zx G L=W)
 (o:∀h' g,dX KX h h'->yd nH h' t p W.2.1 d W.2.2->hl g=aQ W.1.2.1->k (.tuple #[.agg (.int .i64 W.1.1::hl g).toArray,.int .i64 W.1.2.2]) h'):
 Ct 28 [.zP t] h k:=by
 obtain⟨A,hA⟩:=Ar.ex;obtain⟨v,U,n1,c1,Z,n2,c2,b3,n3,c3,b4,n4,c4,e1,H,d1,e2,m2,d2,e3,m3,d3,g,ql,qk,qd,qL⟩:=q.out;have Y:=Gh (L:=L) u.n2;have Du:=u.n2;obtain⟨C,J⟩:∃C,dq L=C:=⟨_,rfl⟩;obtain⟨x,K,f,Q⟩:=L;have aB:K.length<=2^16:=u.n1;have aC:f.length<=2^16:=u.n2;have ay:Q.length<=2^16:=u.n3;have aq:∀t∈K,Dv t:=u.op;have ax:H=K.length:=qL.oR.len;have f1:A .aN .gtr (A .nat H) 0=decide (¬K.length=0):=by rw[bC A,hA.nat];exact decide_eq_decide.2 (by show(H:Int)>0↔_;omega)
 have g:h t=zcL 197 [.zP v,.slice U n1 c1,.slice Z n2 c2,.slice b3 n3 c3,.slice b4 n4 c4,.int .i64 x,.slice e1 H d1,.slice e2 m2 d2,.slice e3 m3 d3]:=g;unfold zx at a;rw[J]at a Y;obtain⟨⟨aD,aA,aE⟩,z⟩:∃X,cW f=X:=⟨_,rfl⟩;obtain⟨⟨b,s,ee⟩,T⟩:∃X,cW C.dJ=X:=⟨_,rfl⟩;have oU:s.length=32:=by have:=jH C.dJ;rw[T]at this;exact this
 rw[T]at a;have a:(if K.length=0 then(cW f,G,(⟨x,K,f,Q⟩:fA))else if(aY G (gD b s)).1=0 then((b,s,ee),(aY G (gD b s)).2,C)else((0,List.replicate 32 0,(aY G (gD b s)).1),(aY G (gD b s)).2,⟨x,K,f,Q⟩))=W:=a;rw[z]at a;have F:¬K.length=0->mG ⟨x,K,f,Q⟩=(C,0):=λh0=>by
  unfold mG;rw[if_neg h0,J]
 have V:C.next=x:=by rw[<-J];rfl
 refine fz hKv A Tryz.func28 ?_;cbv;repeat (first|rw[av A] | (refine cr g ?_;cbv)|(refine⟨⟨_,rfl,rfl⟩,?_⟩;cbv))
 rw[f1];by_cases E:K.length=0
 .rw[if_pos E]at a;subst a;rw[bn (λh=>h E)];have qb:Sl 113 dU h (.slice e2 m2 d2) f:=qL.dJ;clear F;cbv;repeat (first|rw[av A] | (refine cr g ?_;cbv)|(refine⟨⟨_,rfl,rfl⟩,?_⟩;cbv))
  refine aQg qb (by omega) z (λh2 gd r DS=>?_);have:=o h2 gd (r.x _) (q.le r) DS;clear o;cbv;exact this
 rw[if_neg E]at a;have F:=F E;rw[ak E];cbv;repeat (first|rw[av A] | (refine cr g ?_;cbv)|(refine⟨⟨_,rfl,rfl⟩,?_⟩;cbv))
 obtain⟨y,Vd,i,j⟩:=C;refine Rv qL aq (by omega) (by omega) (by omega) (λh1 a1 p1 r1 a2 M N a3 p3 r3 l1 D=>?_);rw[F]at D |-;have V:y=x:=V;subst V;have D:Bm h1 a1 p1 r1 a2 M N a3 p3 r3 ⟨y,Vd,i,j⟩:=D;have ao:Sl 113 dU h1 (.slice a2 M N) i:=D.dJ;have Y:i.length<=2^20:=Y;have T:cW i=(b,s,ee):=T;have g1:=l1 _ _ g;clear F;cbv;refine aQg ao Y T (λh2 gd r DS=>?_);have fa:=l1.trans r;have g2:=r _ _ g1;have ab:=D.ls (r.t _);cbv;repeat (first|rw[av A] | (refine cr g2 ?_;cbv)|(refine⟨⟨_,rfl,rfl⟩,?_⟩;cbv))
 refine bQg (n:=b) DS oU (λh3 rb rn rc l3 qr AH=>?_);have I:=fa.trans l3;have g3:=l3 _ _ g2;generalize gD b s=rec at *;cbv;repeat (first|rw[av A] | (refine cr g3 ?_;cbv)|(refine⟨⟨_,rfl,rfl⟩,?_⟩;cbv))
 refine Bn (qk.le I) FE (ql.lt (I.t _)) qr.sl hs hn AH hw (λB O S xf=>?_);have g5:=O _ _ g3 (λ_ _ _ m=>by cases m;decide);have xM:=(qd.lt (I.t _)).lt (O.t (by decide));have Jd:=(qL.ls (I.t _)).ls (O.t (by decide));have ag:=(ab.ls (l3.t _)).ls (O.t (by decide));have Vl:dX KX h B:=(I.x _).trans (O.sup (by decide));clear qr;generalize aY G rec=R at *;obtain⟨e,l⟩:=R;have S:nv nH B p l.D:=S;have xf:Rt nH B v p (l.s:Int) (l.n:Int):=xf;have a:(if e=0 then((b,s,ee),l,(⟨y,Vd,i,j⟩:fA))else((0,List.replicate 32 0,e),l,⟨y,K,f,Q⟩))=W:=a;have fr:A .aN .neq e 0=decide (e≠0):=az A ..;by_cases m:e=0
 .rw[if_pos m]at a;subst a;rw[bn (λg=>g m)]at fr;have fin:∀c,c=bL B t (.cells #[.zP v,.slice U n1 c1,.slice Z n2 c2,.slice b3 n3 c3,.slice b4 n4 c4,.int .i64 y,.slice a1 p1 r1,.slice a2 M N,.slice a3 p3 r3] 197 (0,0))->
   dX KX h c/\c t=zcL 197 [.zP v,.slice U n1 c1,.slice Z n2 c2,.slice b3 n3 c3,.slice b4 n4 c4,.int .i64 y,.slice a1 p1 r1,.slice a2 M N,.slice a3 p3 r3]/\yd nH c t p l d ⟨y,Vd,i,j⟩/\Sl 113 dU c (.slice a2 M N) i:=λc hh=>by
   obtain⟨g6,P⟩:=tM g5 hh;have w:=ag.ls (P.t (by decide));exact⟨Vl.trans (P.sup (by decide)),g6,⟨⟨v,_,_,_,_,_,_,_,_,_,_,_,_,_,_,_,_,_,_,_,_,_,g6,xf.lt (P.t (by decide)),S.lt (P.t (by decide)) (nC _),xM.lt (P.t (by decide)),w⟩,q.new⟩,w.dJ⟩
  cbv;rw[fr];cbv;repeat rw[av A]
  refine ju g5 (by simp) (λc hh=>?_);obtain⟨al,g6,q6,an⟩:=fin c hh;clear fin hh;cbv;repeat (first|rw[av A] | (refine cr g6 ?_;cbv)|(refine⟨⟨_,rfl,rfl⟩,?_⟩;cbv))
  refine aQg an Y T (λh7 aw l7 ar=>?_);have:=o h7 aw (al.trans (l7.x _)) (q6.le l7) ar;clear o;cbv;exact this
 rw[if_neg m]at a;subst a;rw[ak m]at fr;have:=o B (λ_=>0) Vl ⟨⟨v,U,n1,c1,Z,n2,c2,b3,n3,c3,b4,n4,c4,e1,H,d1,e2,m2,d2,e3,m3,d3,g5,xf,S,xM,Jd⟩,q.new⟩ rfl;clear o;cbv;rw[fr];cbv;exact this
def fR(R:List Row):Nat->List Row:=vh (λ_=>[]) 0 R
structure Bl(k:Nat)(R:List Row):Prop where
 so:SO R
 lo:∀row∈R,kN row<(k:Int)
 n:R.length<=k
structure UF(n:Nat)(L:fA):Prop where
 nx:L.next=(n:Int)
 op:∀t∈L.oR,Dv t
 o:L.oR.length<=3
 b:L.dJ.length<=n
 t:L.Es.length<=n
theorem WG{l:List Bs}(h:∀x∈l,x.length=32):(gP l).length=32:=by
 unfold gP;split
 .exact fL _
 .exact h _ (kQJ ..)
 exact fL _
theorem Hp(id:Int)(l:List cV):(eL id l).length=32:=by unfold eL iM;refine WG (λx hx=>?_);obtain⟨j,h,rfl⟩:=List.mem_mapIdx.1 hx;exact fL _
theorem Et(L:fA):(jZ L).length<=33:=by
 unfold jZ;split
 .decide
 rw[cy,jH];decide
theorem Er(l:Bs):(dS (strOf l)).length<=l.length+2:=by unfold dS gM fW;have h:=kZ (strOf l);have a:(strOf l).size=l.length:=EI l;simp only[cy,wS,yk,eA];omega
structure SF(G:Lg)(P k:Nat)(R:List Row)(L:fA):Prop where
 rows:Bl k R
 Fh:UF R.length L
 out:∃rs sd sl,yf G P rs/\yI rs sd sl/\sd rs.length=G0 (fR R)/\sl rs.length=L/\rs.length<=3+k
 fit:64+G.s<=P*64
theorem bZd(q:LB g.D)(l:Bs):LB (aY g l).2.D:=by
 unfold aY;split
 .exact q
 split
 .exact q
 split
 .exact sE q ..
 split
 .exact nJ (sE q ..) ..
 split
 .exact vr (nJ (sE q ..) ..)
 exact vr (nJ (sE q ..) ..)
theorem Sq(h:i<3):(fv (aP i)).length=27/\(aO 1 (some (fv (aP i)))).1=1/\ou (eN i) (aO 1 (some (fv (aP i)))).2=(eN (i+1),false,some [])/\cf (eN i) (aP i)=(eN (i+1),0):=by
 have h:i=0\/i=1\/i=2:=by omega
 rcases h with rfl|rfl|rfl<;>exact⟨by kernel_rfl,by kernel_rfl,by kernel_rfl,by kernel_rfl⟩
theorem NH:∀i,i<=3->(eN i).ao.Pairwise (λa b=>dA a.S.name b.S.name<0)/\(eN i).ao.length<=8/\∀t∈(eN i).ao,t.S.name.size<=2^60
 |0,_=>⟨List.Pairwise.nil,by decide,λt c=>(by cases c)⟩
 |1,_=>by rw[Qd];exact⟨kQv ..,by decide,λt c=>by rw[SW.1 c];exact iG 0 (by decide)⟩
 |2,_=>by
  rw[Qc];refine⟨jKT.2 ⟨λb d=>by rw[SW.1 d];decide,kQv ..⟩,by decide,λt c=>?_⟩;rcases xl.1 c with rfl|c
  .exact iG 0 (by decide)
  rw[SW.1 c];exact iG 1 (by decide)
 |3,_=>by
  rw[wW];refine⟨jKT.2 ⟨λb d=>?_,jKT.2 ⟨λb d=>by rw[SW.1 d];decide,kQv ..⟩⟩,by decide,λt c=>?_⟩
  .rcases xl.1 d with rfl|d
   .decide
   rw[SW.1 d];decide
  rcases xl.1 c with rfl|c
  .exact iG 0 (by decide)
  rcases xl.1 c with rfl|c
  .exact iG 1 (by decide)
  rw[SW.1 c];exact iG 2 (by decide)
 |n+4,h=>by omega
structure BW(G:Lg)(P i:Nat):Prop where
 lb:LB G.D
 out:∃rs sd sl,yf G P rs/\yI rs sd sl/\sd rs.length=eN i/\sl rs.length=lz/\rs.length=i
 s:G.s=35*i
theorem aZx:yg lz:=⟨⟨jKt _,by decide⟩,λt h=>(by cases h),nr _,nr _,nr _⟩
theorem jXD(h:0<P):BW ⟨JN P,0,0⟩ P 0:=⟨⟨jKt 0,by show(0:Int)<2^63;decide⟩,⟨[],_,_,dQX h,yI.nil,rfl,rfl,rfl⟩,rfl⟩
theorem dKc(q:BW G P i)(p:3<=P)(l:i<3):∃a,gH G (eN i) (aP i)=(0,a,eN (i+1))/\BW a P (i+1):=by
 obtain⟨r,s,sl,I,R,f,g,j⟩:=q.out;obtain⟨u,m,n,o⟩:=Sq l;have t:=q.s;have F:=bZd q.lb (fv (aP i));obtain⟨a,e,b,T⟩:=CD I (fv (aP i)) (by omega) (by omega);have k:gH G (eN i) (aP i)=Nv G (eN i) (cf (eN i) (aP i)) (fv (aP i)):=rfl;have S:uK (s r.length) (sl r.length) (fv (aP i)) (eN (i+1)) lz:=by rw[f,g];exact .bZL m n
 obtain⟨Z,c,a1,a2,d⟩:=R.snoc S aZx (po (i+1) (by omega));rw[e]at F;refine⟨a,?_,F,⟨_,Z,c,b,a1,a2,d,by rw[cy,qA,j]⟩,by omega⟩;rw[k,o];unfold Nv;rw[if_neg (λh=>h rfl),e];rfl
set_option maxHeartbeats 2000000
theorem Wr{T:List ca}{b:ca}(h:∀t,T[j]? =some t->b.S=t.S):(T.set j b).map (·.S)=T.map (·.S):=by
 apply yr;intro k;rw[kS,kS,VS];split
 .rename_i e;subst e;by_cases a:j<T.length
  .obtain⟨t,c⟩:=aJ a;rw[if_pos a,c];show some b.S=some t.S;rw[h t c]
  rw[if_neg a,yo (kQI a)]
 rfl
theorem Iv{n:Nat}(o:sa n d)(hd:bU)(s:-2^63<=hd.s/\hd.s<2^63){act:ca->ca×cV×Int}(a:∀t,(act t).1.S=t.S):(ea d hd act).1.ao.map (·.S)=d.ao.map (·.S):=by
 have h:=(oD o hd s).S;unfold ea;split
 .exact h
 split
 .rename_i t w b c;split
  .exact h
  split
  .exact(Wr (λx hx=>by rw[b]at hx;cases hx;exact a t)).trans h
  exact h
 exact h
theorem bZg{n:Nat}{c:DB}{s:Int}(o:sa n d)(b:-2^63<=s/\s<2^63)(h:lV s d c):c.ao.map (·.S)=d.ao.map (·.S):=by
 cases h with
 |begin=>
  unfold iY jl;split
  .rfl
  split<;>rfl
 |hold nm x=>exact(oD o ⟨s,nm,x⟩ b).S
 |put nm z r=>exact Iv o _ b (λt=>lG _ _)
 |take nm z a=>
  refine Iv o _ b (λt=>?_);unfold eV;split
  .rfl
  exact kR _ _
 |rows nm=>have:=(oD o ⟨s,nm,false⟩ b).S;unfold rj;split<;>exact this
 |save nm=>
  unfold lh;repeat' split
  all_goals rfl
 |back nm=>
  unfold mq;repeat' split
  all_goals first|rfl|exact wT _ _
 |ER=>
  unfold cN;split
  .exact Ec _ _ _
  rfl
theorem bQR{T a:List ca}(h:a.map (·.S)=T.map (·.S))(h0:∃t∈T,t.S.name=nm):∃t∈a,t.S.name=nm:=by
 obtain⟨t,b,n⟩:=h0;have:t.S∈a.map (·.S):=by rw[h];exact kXv b
 obtain⟨c,C,e⟩:=xz.1 this;exact⟨c,C,by rw[e];exact n⟩
structure Dz(m:Nat)(L:fA):Prop where
 nx:0<=L.next/\L.next<=(m:Int)
 op:∀t∈L.oR,Dv t
 o:L.oR.length<=3
 b:L.dJ.length<=m
 t:L.Es.length<=m
theorem Dz.bKc(q:Dz m L)(h:m<2^16):yg L:=⟨by have:=q.nx;omega,q.op,by have:=q.o;omega,by have:=q.b;omega,by have:=q.t;omega⟩
theorem Dz.up(q:Dz m L):Dz (m+1) L:=⟨by have:=q.nx;omega,q.op,q.o,by have:=q.b;omega,by have:=q.t;omega⟩
theorem Dz.add(q:Dz m L)(h:Dv ⟨L.next,cs⟩):Dz (m+1) (eX L cs):=by
 obtain⟨c,b,d,e,f⟩:=q;unfold eX;split
 .exact⟨by show 0<=L.next+1/\L.next+1<=_;omega,λt a=>(by cases a),nr _,by show(L.dJ++[_]).length<=_;simp;omega,by show(L.Es++[_]).length<=_;simp;omega⟩
 rename_i n;refine⟨by show 0<=L.next+1/\L.next+1<=_;omega,λt a=>?_,?_,by show L.dJ.length<=_;omega,by show L.Es.length<=_;omega⟩
 .have a:t∈L.oR++[⟨L.next,cs⟩]:=a;rcases wy.1 a with a|a
  .exact b t a
  rw[SW.1 a];exact h
 show(L.oR++[_]).length<=3;simp;omega
theorem Dz.close(q:Dz m L):Dz (m+1) (dq L):=by obtain⟨a,b,c,d,e⟩:=q;exact⟨by show 0<=L.next/\L.next<=_;omega,λt h=>(by cases h),nr _,by show(L.dJ++[_]).length<=_;simp;omega,by show(L.Es++[_]).length<=_;simp;omega⟩
structure GI(P m:Nat)(G:Lg):Prop where
 lb:LB G.D
 log:∃rs,yf G P rs/\rs.length<=m+3
 fit:64+G.s<=P*64
theorem GI.up(q:GI P m G):GI P (m+1) G:=by obtain⟨r,I,h⟩:=q.log;exact⟨q.lb,⟨r,I,by omega⟩,q.fit⟩
theorem GI.bJQ(q:GI P m G)(a:P<=4096)(b:m<=2^10):G.s<=64*(G.D.now.length-1)/\G.s<=2^29/\G.n<=2^29/\G.D.ws.length<=2^28:=by obtain⟨r,I,h⟩:=q.log;have f:=q.fit;refine⟨by rw[I.iP.len];omega,by omega,by rw[I.n];omega,by rw[I.ws];exact nr _⟩
theorem GI.app(q:GI P m G)(c:0<P){l:Bs}(hl:l.length<=65536):((aY G l).1=0\/(aY G l).1=14)/\GI P (m+1) (aY G l).2:=by
 obtain⟨r,I,h⟩:=q.log;have F:=bZd q.lb l;rcases zA I l hl c with⟨g,e,a,d,b⟩ |e
 .rw[e]at F |-;exact⟨.inl rfl,F,⟨_,a,by rw[cy,qA];omega⟩,b⟩
 rw[e];exact⟨.inr rfl,q.up⟩
structure WI(P m:Nat)(G:Lg)(d:DB)(L:fA):Prop where
 g:GI P m G
 sj:SJ m d
 ta:∃t∈d.ao,t.S.name=jx
 Fh:Dz m L
theorem WI.act{a:DB}(q:WI P m G d L){s:Int}(b:-2^63<=s/\s<2^63)(h:lV s d a)(j:SJ (m+1) a):WI P (m+1) G a L:=
 ⟨q.g.up,j,bQR (bZg q.sj.aQA b h) q.ta,q.Fh.up⟩
theorem Rl(w:TW d.ao){x:cV}(h:Bp d.ao x):yh x/\∀id i,(dh id i x).length<=250:=by
 obtain⟨t,f,n⟩:=h.at_;have z:=(w.ok t f).2.2.1;rw[n]at z;obtain⟨a,v,r,e⟩:=h.row;have X:v.s.size<=60:=by
  rcases e with rfl| ⟨s,rfl,c⟩
  .decide
  exact c
 have K:(js v).length<=63:=by
  rcases e with rfl| ⟨s,rfl,c⟩
  .decide
  show(u8 3::dS s).length<=63;have:(dS s).length<=62:=by unfold dS gM fW;have:=kZ s;simp only[cy,wS,yk,eA];omega
  rw[wS];omega
 have l:=bY a;have q:(gn x.row).length<=100:=by rw[r];show(u8 2::((u8 2::cF a)++(js v++[]))).length<=100;simp only[cy,wS,yk];omega
 refine⟨⟨by rw[r];show 2<=2^16;decide,by omega,λy b=>?_⟩,λid i=>?_⟩
 .rw[r]at b;rcases xl.1 b with rfl|b
  .show dZ.size<=2^40;decide
  rw[SW.1 b];omega
 have g:(dS x.table).length<=14:=by unfold dS gM fW;have:=kZ x.table;simp only[cy,wS,yk,eA];omega
 have j:=Er (gn x.row);have k:(cU id i x).length=32:=fL _;unfold dh;simp only[cy,wS,yk];omega
theorem Pp(q:SC d)(s:Int):(∀c∈(bZ d s).2.1,Bp d.ao c)/\(bZ d s).2.1.length<=60:=by
 unfold bZ;split
 .simp only;split
  .rename_i w a;exact q.log w (cK a)
  exact⟨λc h=>(by cases h),nr _⟩
 exact⟨λc h=>(by cases h),nr _⟩
theorem Iq(q:SC d)(s:Int):(bZ d s).2.1.length<=255/\(∀c∈(bZ d s).2.1,yh c)/\∀id L,(iK ⟨id,(bZ d s).2.1⟩ L).length<=65536:=by
 obtain⟨h,a⟩:=Pp q s;refine⟨by omega,λc e=>(Rl q.tw (h c e)).1,λid L=>?_⟩;generalize (bZ d s).2.1=cs at *;have f:=Hp id cs;have g:=Et L;have i:(iU id cs.length).length=10:=by unfold iU;simp[bY]
 have b:((cs.mapIdx (dh id)).flatten).length<=(cs.mapIdx (dh id)).length*250:=Il (λx hx=>by
  obtain⟨j,k,rfl⟩:=List.mem_mapIdx.1 hx;exact(Rl q.tw (h _ (List.getElem_mem _))).2 id j)
 rw[List.length_mapIdx]at b;have w:cs.length*250<=60*250:=za _ a;show(((iU id cs.length++(cs.mapIdx (dh id)).flatten)++eL id cs)++jZ L).length<=65536;simp only[cy];omega
theorem WI.cXR(q:WI P m G d L)(g:0<P){s:Int}(a:-2^63<=s/\s<2^63){W:Int×Int×Lg×DB×fA}(i:oe G d L s=W):WI P (m+1) W.2.2.1 W.2.2.2.1 W.2.2.2.2:=by
 obtain⟨j,e,f⟩:=Iq q.sj.sc s;have c:=(Sv q.sj a).le (jKr m);have r:=(Wi q.sj a).le (jKr m);have K:∃t∈(bZ d s).1.ao,t.S.name=jx:=by unfold bZ;split<;>exact q.ta
 have h:∃t∈(cN d s).1.ao,t.S.name=jx:=bQR (bZg q.sj.aQA a .ER) q.ta;have b:=q.g.app g (l:=iK ⟨L.next,(bZ d s).2.1⟩ (eX L (bZ d s).2.1)) (f _ _);subst i;unfold oe;split
 .exact⟨q.g.up,q.sj.le (jKr m),q.ta,q.Fh.up⟩
 split
 .exact⟨q.g.up,c,K,q.Fh.up⟩
 split
 .exact⟨b.2,c,K,q.Fh.add ⟨by show(bZ d s).2.1.length<=2^30;omega,e⟩⟩
 exact⟨b.2,r,h,q.Fh.up⟩
theorem WI.hJh(q:WI P m G d L)(b:0<P){W:(Int×Bs×Int)×Lg×fA}(c:zx G L=W):WI P (m+1) W.2.1 d W.2.2:=by
 have a:=q.g.app b (l:=gD (cW (dq L).dJ).1 (cW (dq L).dJ).2.1) (by
  unfold gD;simp only[cy,wS,yk,jH,bY];omega)
 have h:=q.sj.le (jKr m);subst c;unfold zx;split
 .exact⟨q.g.up,h,q.ta,q.Fh.up⟩
 split
 .exact⟨a.2,h,q.ta,q.Fh.close⟩
 exact⟨a.2,h,q.ta,q.Fh.up⟩
def aQz:ByteArray:=⟨#[111,114]⟩
def Nf(nm:ByteArray)(k:Nat):tE:=⟨nm,[⟨⟨#[122]⟩,((1+k:Nat):Int),false⟩],0,false⟩
theorem bJK{k:Nat}(h:k<3):eE (Nf aQz k)≠0:=by
 have h:k=0\/k=1\/k=2:=by omega
 rcases h with rfl|rfl|rfl<;>decide
theorem cKy(h:nm.size<=4)(k:Nat):(fv (Nf nm k)).length<=65536:=by
 have b:(vj nm).length<=6:=by unfold vj gM fW;have:=kZ nm;simp only[cy,wS,yk,eA];omega
 have c:(uN (Nf nm k)).length<=40:=by show(vj nm++([u8 1]++(((kG ⟨⟨#[122]⟩,((1+k:Nat):Int),false⟩)++[])++(cF 0++[u8 0])))).length<=40;have a:(kG ⟨⟨#[122]⟩,((1+k:Nat):Int),false⟩).length=5:=rfl;simp only[cy,wS,yk,a,bY];omega
 have d:=Er (uN (Nf nm k));show([u8 1]++dS (strOf (uN (Nf nm k)))).length<=65536;simp only[cy,wS,yk];omega
theorem WI.go(q:WI P m G d L)(h:0<P){D:DB×Int}{l:Bs}(hl:l.length<=65536)(j:SJ m D.1)(b:∃t∈D.1.ao,t.S.name=jx):WI P (m+1) (Nv G d D l).2.1 (Nv G d D l).2.2 L:=by
 have a:=q.g.app h (l:=l) hl;unfold Nv;split
 .exact⟨q.g.up,q.sj.le (jKr m),q.ta,q.Fh.up⟩
 refine⟨a.2,?_,?_,q.Fh.up⟩
 .show SJ (m+1) (if(aY G l).1=0 then D.1 else d);split
  .exact j.le (jKr m)
  exact q.sj.le (jKr m)
 show ∃t∈(if(aY G l).1=0 then D.1 else d).ao,t.S.name=jx;split
 .exact b
 exact q.ta
theorem WI.create(q:WI P m G d L)(b:0<P){k:Nat}(c:k<3)(n:nm=yX\/nm=jx\/nm=aQz):WI P (m+1) (gH G d (Nf nm k)).2.1 (gH G d (Nf nm k)).2.2 L:=by
 have Q:=rM q.sj.sc.tw.gL (Nf nm k);have z:nm.size<=4:=by rcases n with rfl|rfl|rfl<;>decide
 have j:SJ m (cf d (Nf nm k)).1:=by
  rw[Q];rcases n with rfl|rfl|rfl
  .exact Su q.sj (λh=>absurd rfl h) (by show yX.size<=12;decide)
  .have:dv d (Nf jx k)=(d,(dv d (Nf jx k)).2):=by
    unfold dv;split
    .rfl
    rw[if_pos (by
     obtain⟨t,a,n⟩:=q.ta;exact jKL.2 ⟨t,a,ak n⟩)]
   rw[this];exact q.sj
  have:dv d (Nf aQz k)=(d,(dv d (Nf aQz k)).2):=by unfold dv;rw[if_pos (by simpa using bJK c)]
  rw[this];exact q.sj
 refine q.go b (cKy z k) j ?_;rw[Q];unfold dv;repeat' split
 all_goals first|exact q.ta|skip
 obtain⟨t,a,n⟩:=q.ta;rw[<-jKu (cX d.ao (Nf nm k).name) d.ao]at a;refine⟨t,?_,n⟩;show t∈d.ao.take _++[_]++d.ao.drop _;rcases wy.1 a with a|a
 .exact wy.2 (.inl (wy.2 (.inl a)))
 exact wy.2 (.inr a)
theorem WI.drop(q:WI P m G d L)(g:0<P)(z:nm.size<=4)(n:nm≠jx):WI P (m+1) (nG G d nm).2.1 (nG G d nm).2.2 L:=by
 refine q.go g (l:=fo nm) (by
  unfold fo vj gM fW;have:=kZ nm;simp only[cy,wS,yk,eA];omega) (aXB q.sj nm) ?_
 unfold eD;split
 .rename_i b;split
  .exact q.ta
  obtain⟨t,k,f⟩:=q.ta;obtain⟨j,a⟩:=rK k;obtain⟨a1,a2⟩:=tH q.sj.sc.tw.gL a;have S:j≠dC (aS d.ao nm):=λe=>by
   unfold iQ at b;have b:=lA b;obtain⟨-,c⟩:=b;rw[<-e]at c;have:(aS d.ao nm).getD j 0=dA t.S.name nm:=by rw[yz];unfold aS;rw[kS,a];rfl
   rw[this]at c;exact n ((mi c).symm.trans f)
  refine⟨t,?_,f⟩;show t∈d.ao.eraseIdx _;rcases kQT S with h|h
  .exact cK (i:=j) (by rw[List.getElem?_eraseIdx,if_pos h];exact a)
  exact cK (i:=j-1) (by rw[List.getElem?_eraseIdx,if_neg (by omega),show j-1+1=j by omega];exact a)
 exact q.ta
set_option maxHeartbeats 1000000
theorem aXk:Tryz.prog.underlying 102=some (.struct (Tryz.prog.fieldsOf 102)):=by kernel_rfl
theorem aKa:Tryz.prog.eqGuardType Tryz.prog.depth 102=false:=by kernel_rfl
theorem aJl:Tryz.prog.stoodInHeld 102=false:=by kernel_rfl
theorem zZ:Tryz.prog.underlying 3=some (.int .i64):=by kernel_rfl
theorem aJK:((Tryz.prog.fieldsOf 102).toList.map λf=>(f.name,f.type,f.offset))=[("Block",3,0),("Hash",100,1)]:=by kernel_rfl
theorem Hv(w:World):(Go.sizeOf 100).run Tryz.prog w=.ok 32 w:=by rfl
theorem aJQ{P:Program}{d:Nat}{fs:List Field}{t c:TypeId}{a b e g:Value}(h:(fs.map λf=>(f.name,f.type,f.offset))=[("Block",t,0),("Hash",c,1)])
 (p:(part t xs 0).run P w=.ok a w) (k:(part t ys 0).run P w=.ok b w) (l:(part c xs 1).run P w=.ok e w) (m:(part c ys 1).run P w=.ok g w) (e1:(Op.equalIn d t a b).run P w=.ok true w) (i:(Op.equalIn d c e g).run P w=.ok true w):
 (Op.eqFields d xs ys fs).run P w=.ok true w:=by
 match fs,h with
 | [⟨o,s1,o1,_,_,_,_⟩,⟨q,s2,o2,_,_,_,_⟩],h=>
  simp only[kQs,List.map_nil,List.cons.injEq,Prod.mk.injEq,and_true]at h;obtain⟨⟨rfl,rfl,rfl⟩,rfl,rfl,rfl⟩:=h;have n:("Block" ≠ "_"):=by decide
  have j:("Hash" ≠ "_"):=by decide
  simp only[Op.eqFields,n,j,ne_eq,not_false_eq_true,if_true,nX,p,k,l,m,e1,i,mB,kXi,jKw,if_false,va]
theorem Fp{P:Program}{d:Nat}{t:TypeId}(h:P.underlying t=some (.int .i64)):(Op.equalIn (d+1) t (.int .i64 n) (.int .i64 n)).run P w=.ok true w:=by rw[run_equalIn_int w d _ _ _ _ _ h];simp
theorem zy{P:Program}{d:Nat}{t e:TypeId}(b:P.underlying t=some (.array 32 e))(a:P.underlying e=some (.int .u8))(i:∀w,(Go.sizeOf e).run P w=.ok 1 w){l:Bs}(h:l.length=32):
 (Op.equalIn (d+2) t (.agg (aQ l).toArray) (.agg (aQ l).toArray)).run P w=.ok true w:=by
 have:=run_equalIn_bytes w d t e 32 b a i l l h h;rw[show(l==l)=true by simp]at this;exact this
theorem aJT(w:World){d:Nat}{l:Bs}(b:l.length=32)(x0:xs[0]? =some (.int .i64 n))(y:ys[0]? =some (.int .i64 n))(x:xs.extract 1 33=List.toArray (aQ l))(y1:ys.extract 1 33=List.toArray (aQ l)):
 (Op.equalIn (d+3) 102 (.agg xs) (.agg ys)).run Tryz.prog w=.ok true w:=by
 have i:∀c:Array Value,c[0]? =some (.int .i64 n)->(part 3 c 0).run Tryz.prog w=.ok (.int .i64 n) w:=λc h=>by
  simp[part,isAgg,run_underlying zZ,h]
 have p:∀c:Array Value,c.extract 1 33=List.toArray (aQ l)->(part 100 c 1).run Tryz.prog w=.ok (.agg (aQ l).toArray) w:=λc h=>by
  unfold part isAgg;simp only[nX,run_underlying pM,mB,va,if_true,Hv];rw[show(1+32:Nat)=33 from rfl,h]
 rw[run_equalIn_agg w (d+2) _ _ _ aXk aJl];have g:=i xs x0;have j:=i ys y;have k:=p xs x;have m:=p ys y1;have e1:=Fp (P:=Tryz.prog) (w:=w) (d:=d+1) (t:=3) (n:=n) zZ;have a:=zy (P:=Tryz.prog) (w:=w) (d:=d) (t:=100) (e:=5) pM Ep Ah b;have f:=aJK;clear i p;generalize (Tryz.prog.fieldsOf 102).toList=fs at *;generalize Tryz.prog=P at *;exact aJQ f g j k m e1 a
theorem YX{x:Operand}{b:Nat->Int}{l:Bs}(f:hl a=aQ l)(g:hl b=aQ l)(h:l.length=32){k:Value->Prop}(j:k (.bool true)):
 uj (λ_=>Tryz.prog) (λ_=>do
  eqGuard .eql 102 x y (.agg (.int .i64 n::hl a).toArray) (.agg (.int .i64 n::hl b).toArray)
  Go.binOp .eql 102 (.agg (.int .i64 n::hl a).toArray) (.agg (.int .i64 n::hl b).toArray)) k:=by
 refine⟨_,λw=>?_,j⟩;have e:∀c:Nat->Int,hl c=aQ l->(.int .i64 n::hl c).toArray.extract 1 33=List.toArray (aQ l):=λc i=>by
  rw[List.extract_toArray,<-i];exact congrArg List.toArray (show((Value.int .i64 n::hl c).drop 1).take 32=hl c from rfl)
 have x0:=e a f;have o:=e b g;have z:∀c:Nat->Int,(Value.int .i64 n::hl c).toArray[0]? =some (.int .i64 n):=λc=>rfl;have m:=z a;have y1:=z b;generalize List.toArray (Value.int .i64 n::hl a)=xs at *;generalize List.toArray (Value.int .i64 n::hl b)=ys at *;rw[nX,run_eqGuard_agg w _ _ _ _ _ _ aKa,mB];rw[run_eql_struct,show(10000:Nat)=9997+3 from rfl];generalize 9997=d;rw[aJT w h m y1 x0 o];rfl
theorem eJR(q:nI h p g.D)(I:yf g P [])(v:0<P)(i:g.s<2^60)(M:g.n<2^60)
 (y:∀h' s,dX Qu h h'->tD h' s p g dz lz->k (.tuple #[.zP s,.int .i64 0]) h'):
 Ct 19 [.zP p] h k:=by
 obtain⟨A,H⟩:=Ar.ex;have Y:A .aN .neq 0 0=false:=by rw[az A];rfl
 have J:A .aN .lss 0 (A .nat 0)=false:=by rw[aR A,H.nat];rfl
 have hl:=DL I v i M;refine fz cKt A Tryz.func19 ?_;cbv;refine aQo q (by rw[I.iP.len];exact v) (λt e E S a=>?_) (λt l b m c h0 Q E D C=>?_)
 .exfalso;rw[hl]at a;rcases a with a|a
  .exact a rfl
  cases a
 rw[hl]at D C;have L:m=0:=C.len;subst L;cbv;rw[Y];cbv;intro x n hx j;have B:Le t n:=by rw[j];exact Le.set hx
 have r:n x=zcL 150 [.slice none 0 0,.slice none 0 0,.slice none 0 0,.slice none 0 0,.int .i64 0,.slice none 0 0,.slice none 0 0,.slice none 0 0]:=(congrFun j x).trans ae;clear j;cbv;refine aX.go (G:=Unit) (λ_=>[(27,.v (.int .i64 0))]) (λ_=>[]) (λw _ h'=>w=0/\h'=n) 0 () (by constructor<;>cbv) ⟨rfl,rfl⟩ ?_
 intro w z u K;cbv;obtain⟨rfl,rfl⟩:=K;rw[J];cbv;intro s o i d;have O:Le u o:=by rw[d];exact Le.set i
 have F:o s=zcL 158 [.zP l,.pointer none]:=(congrFun d s).trans ae;have N:∀h',h'=bL o s (.cells #[.zP l,.zP x] 158 (0,0))->k (.tuple #[.zP s,.int .i64 0]) h':=λh' f=>by
  have U:Le u h':=by rw[f,d,ek];exact Le.set i
  have x':=E.trans ((B.trans U).x _);exact y h' s x' ⟨_,_,_,_,_,_,_,_,_,⟨l,x,⟨by rw[f];exact ae⟩,D.lt ((B.trans U).t _),q.lt (x'.t (by decide)),⟨_,_,_,_,_,_,_,_,_,_,_,_,U _ _ r,⟨_,_,_,_,_,_,_,_,_,_,_,_,[],rfl,Sl.nil,Sl.nil,Sl.nil,Sl.nil,rfl⟩⟩⟩,⟨Sl.nil,Sl.nil,Sl.nil⟩⟩
 have R:=O _ _ r;clear d y;cbv;rw[av A];refine zE F rfl (cm (x:=.slice none 0 0) R rfl) (λh' f=>?_);have:=N h' f;cbv;exact this
abbrev iQE:List Nat:=158::150::(cJo++(yG++km))
theorem tD.lt{s:Nat}(q:tD h s p G d L)(l:cO iQE h h'):tD h' s p G d L:=by obtain⟨b,n,e,a,j,f,c,k,i,w,r⟩:=q.out;obtain⟨g,x,t,m,o,u⟩:=w.out;exact⟨b,n,e,a,j,f,c,k,i,⟨g,x,⟨l _ _ _ _ (by decide) t.out⟩,m.lt (l.sub),o.lt (l.sub),u.lt (l.sub)⟩,r.ls (l.sub)⟩
structure Wl(h:ad)(w p x s t:Nat):Prop where
 out:h w=zcL 41 [.zP p,.zP x,.zP s,.zP t]
theorem Wl.lt{w x s t:Nat}(q:Wl h w p x s t)(l:cO [41] h h'):Wl h' w p x s t:=⟨l _ _ _ _ (by decide) q.out⟩
theorem NG(a:i<3){b:List jF}{R:List Row}(h:eR.ao[i]? =some ⟨⟨nm,b,key,only⟩,R⟩):(⟨nm,b,key,only⟩:tE)=aP i/\b.length<=2^16/\nm.size<=2^40/\∀x∈b,x.name.size<=2^40:=by
 have a:i=0\/i=1\/i=2:=by omega
 rcases a with rfl|rfl|rfl
 all_goals
  have h:=congrArg ca.S (Option.some.inj h);have e:(⟨nm,b,key,only⟩:tE)=_:=h.symm;refine⟨e,?_⟩;obtain⟨rfl,rfl,-,-⟩:=tE.mk.inj e;refine⟨by decide,by decide,λx hx=>?_⟩;rcases xl.1 hx with rfl|hx
  .decide
  rw[SW.1 hx];decide
theorem IH{w:Nat}{cs:List Value}(g:h w=zcL 41 cs)(a:h'=bL h w (.cells (List.toArray cs') 41 (0,0))):
 h' w=zcL 41 cs'/\dX [41] h h':=by
 subst a;exact⟨ae,gN g (by decide)⟩
theorem aKu{z:Int}(hz:aZ z P)(hP:3<=P)(TC:P<=4096)
 (hk:∀h' w p x s t G,Wl h' w p x s t->tD h' s p G eR lz->yd nH h' t x G eR lz->BW G P 3->k (.zP w) h'):
 Ct 10 [.int .i64 z] h k:=by
 have b0:=jXD (P:=P) (by omega);obtain⟨rs,sd,sl,I0,R0,ax,aw,aq⟩:=b0.out;have GQ:rs=[]:=kXy.1 aq;subst GQ;refine cg hKG Tryz.func10 λA hA=>?_;cbv;intro w h1 hw e1;have g1:h1 w=zcL 41 [.pointer none,.pointer none,.pointer none,.pointer none]:=(congrFun e1 w).trans ae;clear e1;cbv;refine eJT (n:=P) hz (by omega) TC (λh2 p hp l2 q2=>?_);have W:=l2 _ _ g1;cbv;repeat rw[av A]
 refine ju W (by simp) (λh3 b=>?_);obtain⟨g3,x3⟩:=IH (cs':=[.zP p,.pointer none,.pointer none,.pointer none]) W b;have q3:=q2.lt (x3.t (by decide));clear b;cbv;refine eJL hz (by omega) TC (λh4 x hx l4 q4=>?_);have Y:=l4 _ _ g3;have r4:=q4.down (nC h3);cbv;repeat rw[av A]
 refine ju Y (by simp) (λh5 b=>?_);obtain⟨g5,x5⟩:=IH (cs':=[.zP p,.zP x,.pointer none,.pointer none]) Y b;have q5:=(q3.lt (l4.t _)).lt (x5.t (by decide));have r5:=r4.lt (x5.t (by decide)) (nC _);clear b;cbv;repeat (first|rw[av A] | (refine cr g5 ?_;cbv)|(refine⟨⟨_,rfl,rfl⟩,?_⟩;cbv))
 refine eJR (g:=⟨JN P,0,0⟩) q5 I0 (by omega) (by show(0:Nat)<2^60;decide) (by show(0:Nat)<2^60;decide) (λh6 s x6 q6=>?_);have g6:=x6 _ _ g5 (λ_ _ _ E=>by cases E;decide);have r6:=r5.lt (x6.t (by decide)) (nC _);cbv;repeat rw[av A]
 refine ju g6 (by simp) (λh7 b=>?_);obtain⟨g7,x7⟩:=IH (cs':=[.zP p,.zP x,.zP s,.pointer none]) g6 b;have q7:=q6.lt (x7.t (by decide));have r7:=r6.lt (x7.t (by decide)) (nC _);clear b;cbv;repeat (first|rw[av A] | (refine cr g7 ?_;cbv)|(refine⟨⟨_,rfl,rfl⟩,?_⟩;cbv))
 refine cZv (g:=⟨JN P,0,0⟩) r7 I0 (by omega) (by show(0:Nat)<2^60;decide) (by show(0:Nat)<2^60;decide) (λh8 t l8 r8=>?_);have g8:=l8 _ _ g7;have q8:=q7.lt (l8.t _);cbv;repeat rw[av A]
 refine ju g8 (by simp) (λh9 b=>?_);obtain⟨g9,x9⟩:=IH (cs':=[.zP p,.zP x,.zP s,.zP t]) g8 b;have q9:=q8.lt (x9.t (by decide));have r9:=r8.lt (x9.t (by decide)) (nC _);clear b g1 W g3 Y g5 g6 g7 g8 q2 q3 q4 q5 q6 q7 q8 r4 r5 r6 r7 r8;cbv;refine aXv (λiw b1 n1 c1 b2 n2 c2 b3 n3 c3 b4 n4 c4 M m1 e1 d2 m2 e2 d3 m3 e3 d4 m4 e4 gB qD rD=>?_);have ag:Wl iw w p x s t:=⟨gB _ _ g9⟩;have zJ:=q9.lt (gB.t _);have N:=r9.le gB;have st:=rD.ao;have hm:m1=3:=st.len;subst hm;obtain⟨J,D⟩:∃J:Nat->Int->ad->Prop,∀v z h',J v z h'=(∃i G,aZ z i/\v=3-i/\i<=3/\Wl h' w p x s t/\tD h' s p G (eN i) lz/\yd nH h' t x G (eN i) lz/\Sl 132 bN h' (.slice M 3 e1) eR.ao/\BW G P i):=⟨_,λ_ _ _=>rfl⟩;have S:J 3 0 iw:=by rw[D];exact⟨0,_,⟨rfl⟩,rfl,by omega,ag,zJ,N,st,b0⟩
 cbv;refine aX.go (G:=Int) (λz=>[(6,.v (.int .i64 z))]) (λ_=>[(4,[.slice b1 n1 c1,.slice b2 n2 c2,.slice b3 n3 c3,.slice b4 n4 c4]),(5,[.slice M 3 e1,.slice d2 m2 e2,.slice d3 m3 e3,.slice d4 m4 e4])]) (λv z h'=>J v z h') 3 0 (by constructor<;>cbv) S ?_
 intro v z1 oM hI;rw[D]at hI;cbv;obtain⟨i,G,F,hv,hi,K,uX,U,f,bw⟩:=hI;have V:A .aN .lss z1 (A .nat 3)=decide (i<3):=by rw[aR A,F.eq,hA.nat];exact decide_eq_decide.2 (by show(i:Int)<3↔_;omega)
 rw[V];by_cases l:i<3
 .rw[ak l];have ix:=F.ix (len:=3) l;have ll:=F.succ (A:=A);have aU:3-(i+1)<v:=by omega
  have iV:M.isSome=true:=f.bp;obtain⟨Tx,hT⟩:=aJ (xs:=eR.ao) (i:=i) l;obtain⟨⟨nm,bB,key,only⟩,R⟩:=Tx;obtain⟨X,qS,qE,OU⟩:=NG l hT;obtain⟨q,Q,ao⟩:=dKc bw hP l;obtain⟨rs,sd,sl,I,-,-,-,tq⟩:=bw.out;have hs:=bw.s;have C:G.n<=2^29:=by rw[I.n];omega
  have B:G.D.ws.length<=2^28:=by rw[I.ws];exact nr _
  have an:G.s<=64*(G.D.now.length-1):=by rw[I.iP.len];omega
  obtain⟨gL,Yr,O⟩:=NH i (by omega);rw[<-X]at Q;have gw:=K.out;have bX:∀h',Wl h' w p x s t->tD h' s p q (eN (i+1)) lz->yd nH h' t x q (eN (i+1)) lz->Sl 132 bN h' (.slice M 3 e1) eR.ao->J (3-(i+1)) (A .aT .add .i64 z1 1) h':=λh' a1 a2 a3 a4=>by
   rw[D];exact⟨i+1,q,ll,rfl,by omega,a1,a2,a3,a4,ao⟩
  have sm:=po i (by omega);have ab:=bw.lb;clear V D S hk X bw;generalize eN (i+1)=d' at *;generalize eN i=d at *;cbv;rw[av A];refine cr gw ?_;cbv;refine⟨⟨iV,ix⟩,?_⟩;cbv;refine f.cu hT F.eq (o:=0) (m:=4) (by decide) (λcs r=>?_);obtain⟨sb,H,sc,oP,oy,oO,r,a,-⟩:=r;have r:cs=[.string nm,.slice sb H sc,.int .i64 key,.bool only,.slice oP oy oO]:=r;subst r;have XT:H=bB.length:=a.len;cbv;refine RM uX a (by omega) qE OU sm (by omega) C B (λtA c L=>?_);rw[Q]at L |-;have L:tD tA s p q d' lz:=L;have u:=c _ _ gw (λ_ _ _ E=>by cases E;decide);have al:=U.lt (c.t (by decide)) (nC _);have y:=f.mono (c.t (by decide));cbv;rw[av A];refine cr u ?_;cbv;refine⟨⟨iV,ix⟩,?_⟩;cbv;refine y.cu hT F.eq (o:=0) (m:=4) (by decide) (λcs r=>?_);obtain⟨sb,H,sc,oP,oy,oO,r,a,-⟩:=r;have r:cs=[.string nm,.slice sb H sc,.int .i64 key,.bool only,.slice oP oy oO]:=r;subst r;have XT:H=bB.length:=a.len;cbv;refine MZ al ab gL O (by omega) a (by omega) an C B (λZ j e=>?_);rw[Q]at e |-;have e:yd nH Z t x q d' lz:=e;have:=bX Z ⟨j _ _ u (λ_ _ _ E=>by cases E;decide)⟩ (L.lt (j.t (by decide))) e (y.mono (j.t (by decide)));clear bX;cbv;refine⟨3-(i+1),A .aT .add .i64 z1 1,aU,by constructor<;>cbv,this⟩
 have T:i=3:=by omega
 subst T;rw[wW]at uX U;have:=hk oM w p x s t G K uX U bw;rw[bn l];clear hk D S V;cbv;exact this
set_option maxHeartbeats 16000000
def hQa:ByteArray:=⟨#[116,99]⟩
def hQI:ByteArray:=⟨#[110,111,110,101]⟩
theorem Rd{c:Lg}{a:fA}(h:zx G L=((n,s,e),c,a)):s.length=32:=by
 have b:(zx G L).1.2.1=s:=by rw[h]
 rw[<-b];unfold zx;split
 .exact jH _
 split
 .exact jH _
 rfl
theorem gKl{w x s t:Nat}(W:Wl h w p x s t)(q:tD h s p G d L)(r:yd nH h t x G d L)(R:WI P m G d L)(hP:0<P)(TC:P<=4096)(hm:m<=2^10){kk N a1 a2 a3 a4:Int}{ax:Bool}{pb:Option Addr}{pn pc:Nat}
 (bd:(kk % ((18:Nat):Int)).toNat<15) (bx:-2^63<=a2/\a2<2^63) (br:-2^63<=a4/\a4<2^63) 
 (hk:∀h' G' d' L',Wl h' w p x s t->tD h' s p G' d' L'->yd nH h' t x G' d' L'->WI P (m+1) G' d' L'->k (.bool true) h'):
 Ct 21 [.zP w,.agg #[.int .i64 kk,.int .i64 N,.int .i64 a1,.int .i64 a2,.int .i64 a3,.int .i64 a4,.bool ax,.slice pb pn pc]] h k:=by
 obtain⟨A,hA⟩:=Ar.ex;have gw:=W.out;obtain⟨n1,n2,n3,n4⟩:=R.g.bJQ TC hm;have lb:=R.Fh.bKc (by omega);have DP:=R.Fh.o;have lD:=R.sj.aQA;have hI:SI d:=R.sj.sc.si lD (by omega);have sm:=lD.small (by omega);have tw:=R.sj.sc.tw;have FE:=R.g.lb;have bc:∀t∈d.ao,t.S.name.size<=2^60:=λt ht=>by have:=(tw.ok t ht).2.2.1;omega
 have Yr:=tw.le;have ag:∀z:Int,A .aN .eql z z=true:=λz=>by rw[au A];simp
 have bB:∃n,n=(N % ((3:Nat):Int)).toNat/\n<3:=⟨_,rfl,by omega⟩;obtain⟨n,V,bo⟩:=bB;have nW:∀(zz:Int) (J:Nat),aZ zz J->J=n->A .aT .add .i64 1 zz=((1+n:Nat):Int):=λzz J hz b=>by
  rw[hA.aT,hz.eq,b];show IntKind.i64.wrap (1+(n:Int))=_;rw[IntWalk.i64_in _ (by omega)];omega
 obtain⟨zc,HM⟩:∃zc:Int,zc=((1+n:Nat):Int):=⟨_,rfl⟩;rw[<-HM]at nW;refine fU A [7,23] (aj hKy.aw hKy.bq) Tryz.func21 rfl (by kernel_rfl) ?_;cbv;refine jX kk 18 (by decide) (by decide) _ (λzk ik Oq aq aW=>?_);have YA:ik<15:=by rw[aq];exact bd
 have dG:=Oq.eq;have fl:A .aN .lss zk 10=decide (ik<10):=by rw[aR A,dG];exact decide_eq_decide.2 (by omega)
 cbv;rw[fl];by_cases hc:ik<10
 .rw[ak hc];clear fl aq;obtain⟨C,fD⟩:∃C:Int->ad->Prop,∀g h',C g h'=(h'=h/\(g % ((15:Nat):Int)).toNat≠11/\(g % ((15:Nat):Int)).toNat≠13/\(g % ((15:Nat):Int)).toNat≠14):=⟨_,λ_ _=>rfl⟩;have aI:C 2 h:=by rw[fD];exact⟨rfl,by decide,by decide,by decide⟩
  cbv;refine ld.go (G:=Int) (λ_=>[]) (λg=>[(3,[.int .i64 kk,.int .i64 N,.int .i64 a1,.int .i64 a2,.int .i64 a3,.int .i64 a4,.bool ax,.slice pb pn pc]),(6,[.int .i64 g,.int .i64 a2,.int .i64 a3,.int .i64 a4,.bool ax])]) C ?_ ?_
  .cbv;refine jX a1 15 (by decide) (by decide) _ (λzi J j F bD=>?_);have bk:A .aN .eql zi 11=decide (J=11):=by rw[au A,j.eq];exact decide_eq_decide.2 (by omega)
   have bl:A .aN .geq zi 13=decide (13<=J):=by rw[cH A,j.eq];exact decide_eq_decide.2 (by omega)
   have JG:J≠11->¬13<=J->C a1 h:=λu v=>by rw[fD,<-F];exact⟨rfl,u,by omega,by omega⟩
   clear fD;cbv;rw[bk];by_cases ay:J=11
   .rw[ak ay];cbv;refine⟨2,⟨?_,?_,?_⟩,aI⟩<;>cbv
   rw[bn ay];cbv;rw[bl];by_cases aA:13<=J
   .rw[ak aA];cbv;refine⟨2,⟨?_,?_,?_⟩,aI⟩<;>cbv
   rw[bn aA];have JG:=JG ay aA;cbv;refine⟨a1,⟨?_,?_,?_⟩,JG⟩<;>cbv
  intro g h' Y;rw[fD]at Y;cbv;obtain⟨rfl,hg⟩:=Y;obtain⟨lg,b1,y1,c1,b2,y2,c2,b3,y3,c3,b4,y4,c4,e1,m1,d1,e2,m2,d2,e3,m3,d3,gt,ql,qk,qd,qL⟩:=r.out;repeat (first|rw[av A] | (refine cr gw ?_;cbv)|(refine cr gt ?_;cbv)|(refine⟨⟨_,rfl,rfl⟩,?_⟩;cbv))
  refine jZc q (λc f1 p1 r1 f2 p2 Z f3 p3 r3 f4 p4 r4 l Ql=>?_);have H:=l _ _ gw;have aD:=l _ _ gt;have T:=q.le l;cbv;repeat (first|rw[av A] | (refine cr H ?_;cbv)|(refine cr aD ?_;cbv)|(refine⟨⟨_,rfl,rfl⟩,?_⟩;cbv))
  refine dJR Ql (qd.lt (l.t _)) R.sj (by omega) g a2 a3 a4 ax hg bx br (λf f1 p1 r1 f2 p2 Z f3 p3 r3 f4 p4 r4 u1 v1 w1 u2 v2 w2 u3 v3 w3 u4 v4 w4 d' se O qP pR J2 rF fT=>?_);have Q:=O _ _ H;have aC:=O _ _ aD;have q2:=T.le O;have fa:=l.trans O;have fin:∀h3 h4,dX [158] f h3->tD h3 s p G d' L->h4=bL h3 t (.cells #[.zP lg,.slice u1 v1 w1,.slice u2 v2 w2,.slice u3 v3 w3,.slice u4 v4 w4,.int .i64 L.next,.slice e1 m1 d1,.slice e2 m2 d2,.slice e3 m3 d3] 197 (0,0))->k (.bool true) h4:=λh3 h4 K q3 hh=>by
   have aB:=K _ _ aC (λ_ _ _ b=>by cases b;decide);have aw:=K _ _ Q (λ_ _ _ b=>by cases b;decide);obtain⟨g4,x4⟩:=tM aB hh;have E:=R.act rF fT J2;have rn:=r.new;exact hk h4 G d' L ⟨x4 _ _ aw (λ_ _ _ b=>by cases b;decide)⟩ (q3.lt (x4.t (by decide))) ⟨⟨lg,_,_,_,_,_,_,_,_,_,_,_,_,_,_,_,_,_,_,_,_,_,g4,((ql.lt (fa.t _)).lt (K.t (by decide))).lt (x4.t (by decide)),((qk.le fa).lt (K.t (by decide)) (nC _)).lt (x4.t (by decide)) (nC _),(pR.lt (K.t (by decide))).lt (x4.t (by decide)),((qL.ls (fa.t _)).ls (K.t (by decide))).ls (x4.t (by decide))⟩,rn⟩ E
  clear hk r R Ql H aD T;cbv;repeat (first|rw[av A] | (refine cr Q ?_;cbv)|(refine⟨⟨_,rfl,rfl⟩,?_⟩;cbv))
  refine gKG q2 qP (λh3 K q3=>?_);have fin:=λh4=>fin h3 h4 K q3;have aB:=K _ _ aC (λ_ _ _ b=>by cases b;decide);have aw:=K _ _ Q (λ_ _ _ b=>by cases b;decide);clear q2 qP Q aC;cbv;repeat (first|rw[av A] | (refine cr aw ?_;cbv)|(refine⟨⟨_,rfl,rfl⟩,?_⟩;cbv))
  refine ju aB (by simp) (λh4 hh=>?_);have:=fin h4 hh;clear fin hh;cbv;exact this
 rw[bn hc];have dG:zk=(ik:Int):=Oq.eq;have FM:(zk=10\/zk=11)\/zk=12\/zk=13\/zk=14:=by omega
 obtain⟨i4,aH,bM⟩:∃i4,i4=(a2 % ((4:Nat):Int)).toNat/\i4<4:=⟨_,rfl,by omega⟩;obtain⟨zs,aE⟩:∃zs:Int,zs=(i4:Int):=⟨_,rfl⟩;have aF:-2^63<=zs/\zs<2^63:=by omega
 clear fl aq Oq dG YA aW;rcases FM with aM|rfl|rfl|rfl
 .obtain⟨⟨o1,o2,o,S,cL⟩,I⟩:∃X,oe G d L zs=X:=⟨_,rfl⟩;obtain⟨qS,Ki,-⟩:=Iq R.sj.sc zs;have E:=R.cXR hP aF I;have E:WI P (m+1) o S cL:=E;rcases aM with rfl|rfl
  all_goals
   cbv;repeat (rw[au A];cbv)
   repeat (first|rw[av A] | (refine cr gw ?_;cbv)|(refine⟨⟨_,rfl,rfl⟩,?_⟩;cbv))
   refine jX a2 4 (by decide) (by decide) _ (λz i hz hi _=>?_);cbv;obtain rfl:z=zs:=by rw[hz.eq,hi,<-aH,aE]
   repeat (first|rw[av A] | (refine cr gw ?_;cbv)|(refine⟨⟨_,rfl,rfl⟩,?_⟩;cbv))
   refine bQw q z lD (by omega) lb qS Ki n2 n3 n4 I (λc x1 T=>?_);have T:tD c s p o S cL:=T;have H:=x1 _ _ gw (λ_ _ _ b=>by cases b;decide);have r1:=r.lt (x1.t (by decide)) (nC _);cbv;repeat (first|rw[av A] | (refine cr H ?_;cbv)|(refine⟨⟨_,rfl,rfl⟩,?_⟩;cbv))
   refine jX a2 4 (by decide) (by decide) _ (λz2 i2 lN aK _=>?_);cbv;obtain rfl:z2=z:=by rw[lN.eq,aK,<-aH,aE]
   repeat (first|rw[av A] | (refine cr H ?_;cbv)|(refine⟨⟨_,rfl,rfl⟩,?_⟩;cbv))
   refine aQh r1 z2 aF hI lb DP qS Ki FE n1 n3 n4 I (λf x2 Z=>?_);have Z:yd nH f t x o S cL:=Z;have:=hk f o S cL ⟨x2 _ _ H (λ_ _ _ b=>by cases b;decide)⟩ (T.lt (x2.t (by decide))) Z E;clear hk;cbv;rw[ag];cbv;rw[ag];cbv;exact this
 .obtain⟨⟨⟨en,an,ee⟩,o,cL⟩,I⟩:∃X,zx G L=X:=⟨_,rfl⟩;have E:=R.hJh hP I;have E:WI P (m+1) o d cL:=E;have Ig:an.length=32:=Rd I;cbv;repeat (rw[au A];cbv)
  repeat (first|rw[av A] | (refine cr gw ?_;cbv)|(refine⟨⟨_,rfl,rfl⟩,?_⟩;cbv))
  refine cZF q lb n2 n3 n4 I (λc g1 x1 T yB=>?_);have T:tD c s p o d cL:=T;have yB:hl g1=aQ an:=yB;have H:=x1 _ _ gw (λ_ _ _ b=>by cases b;decide);have r1:=r.lt (x1.t (by decide)) (nC _);cbv;repeat (first|rw[av A] | (refine cr H ?_;cbv)|(refine⟨⟨_,rfl,rfl⟩,?_⟩;cbv))
  refine eJM r1 lb FE n1 n3 n4 I (λf g2 x2 Z HY=>?_);have Z:yd nH f t x o d cL:=Z;have HY:hl g2=aQ an:=HY;have:=hk f o d cL ⟨x2 _ _ H (λ_ _ _ b=>by cases b;decide)⟩ (T.lt (x2.t (by decide))) Z E;clear hk;cbv;refine YX yB HY Ig ?_;cbv;rw[ag];cbv;exact this
 .have ao:∃nm,[yX,jx,aQz][n]? =some nm/\(nm=yX\/nm=jx\/nm=aQz):=by
   have:n=0\/n=1\/n=2:=by omega
   rcases this with rfl|rfl|rfl
   .exact⟨_,rfl,.inl rfl⟩
   .exact⟨_,rfl,.inr (.inl rfl)⟩
   exact⟨_,rfl,.inr (.inr rfl)⟩
  obtain⟨nm,qE,Jt⟩:=ao;obtain⟨⟨e,o,S⟩,I⟩:∃X,gH G d (Nf nm n)=X:=⟨_,rfl⟩;have hS:(⟨nm,[⟨⟨#[122]⟩,zc,false⟩],0,false⟩:tE)=Nf nm n:=by rw[HM];rfl
  have E:=R.create hP bo Jt;rw[I]at E;have E:WI P (m+1) o S L:=E;have aU:nm.size<=2^40:=by rcases Jt with rfl|rfl|rfl<;>decide
  have Tt:∀x∈[(⟨⟨#[122]⟩,zc,false⟩:jF)],x.name.size<=2^40:=λx hx=>by rw[SW.1 hx];show(1:Nat)<=2^40;decide
  obtain⟨C,fD⟩:∃C:(ByteArray×(Option Addr×Nat×Nat))->ad->Prop,∀g h',C g h'=(Le h h'/\g.1=nm/\Sl 202 bH h' (.slice g.2.1 g.2.2.1 g.2.2.2) [⟨⟨#[122]⟩,zc,false⟩]):=⟨_,λ_ _=>rfl⟩;have JG:∀D h',Le h h'->Sl 202 bH h' (.slice (zsA D) 1 1) [⟨⟨#[122]⟩,zc,false⟩]->C (nm,(zsA D,1,1)) h':=λD h' l' s'=>by rw[fD];exact⟨l',rfl,s'⟩
  cbv;repeat (rw[au A];cbv)
  refine ld.go (G:=ByteArray×(Option Addr×Nat×Nat)) (λ_=>[(19,.loc 19 0)]) (λg=>[(3,[.int .i64 kk,.int .i64 N,.int .i64 a1,.int .i64 a2,.int .i64 a3,.int .i64 a4,.bool ax,.slice pb pn pc]),(19,[.string g.1,.slice g.2.1 g.2.2.1 g.2.2.2,.int .i64 0,.bool false])]) C ?_ ?_
  .clear fD hk;cbv;refine⟨?_,?_⟩
   .skip;intro n8 c pH B;have l:Le h c:=by rw[B];exact Le.set pH
    have U:=ke (s:=oY) (h:=c) rfl ((congrFun B n8).trans ae) (x:=yX) (y:=jx) (w:=aQz) rfl rfl rfl;clear B;cbv;refine jX N 3 (by decide) (by decide) _ (λzi J j F OO=>?_);have F:J=n:=by rw[F,V]
    cbv;refine⟨⟨rfl,j.ix (len:=3) OO⟩,?_⟩;cbv;refine(U).load (by rw[F];exact qE) j.eq (λcs a=>?_);have a:cs=[.string nm]:=a;subst a;cbv;refine jX N 3 (by decide) (by decide) _ (λzj jj ab al aG=>?_);have Tz:=nW zj jj ab (by rw[al,V]);cbv;refine(U).load (by rw[F];exact qE) j.eq (λcs a=>?_);have a:cs=[.string nm]:=a;subst a;cbv;refine⟨⟨_,rfl,rfl⟩,?_⟩;cbv;rw[Tz];intro D f nj M;have O:Le c f:=by rw[M];exact Le.set nj
    have sc:=bf (s:=bH) (h:=f) (x:=⟨⟨#[122]⟩,zc,false⟩) ((congrFun M D).trans ae) rfl;clear M;cbv;refine(U.mono (O.t _)).load (by rw[F];exact qE) j.eq (λcs a=>?_);have a:cs=[.string nm]:=a;subst a;cbv;refine⟨⟨_,rfl,rfl⟩,?_⟩;cbv;have Y:=JG D _ (l.trans O) (sc);refine⟨(nm,(zsA D,1,1)),⟨?_,?_,?_⟩,Y⟩<;>cbv
   skip;refine jX N 3 (by decide) (by decide) _ (λzi J j F OO=>?_);have F:J=n:=by rw[F,V]
   cbv;refine⟨?_,?_⟩
   .skip;intro n8 c pH B;have l:Le h c:=by rw[B];exact Le.set pH
    have U:=ke (s:=oY) (h:=c) rfl ((congrFun B n8).trans ae) (x:=yX) (y:=jx) (w:=aQz) rfl rfl rfl;clear B;cbv;refine⟨⟨rfl,j.ix (len:=3) OO⟩,?_⟩;cbv;refine(U).load (by rw[F];exact qE) j.eq (λcs a=>?_);have a:cs=[.string nm]:=a;subst a;cbv;refine jX N 3 (by decide) (by decide) _ (λzj jj ab al aG=>?_);have Tz:=nW zj jj ab (by rw[al,V]);cbv;refine(U).load (by rw[F];exact qE) j.eq (λcs a=>?_);have a:cs=[.string nm]:=a;subst a;cbv;refine⟨⟨_,rfl,rfl⟩,?_⟩;cbv;rw[Tz];intro D f nj M;have O:Le c f:=by rw[M];exact Le.set nj
    have sc:=bf (s:=bH) (h:=f) (x:=⟨⟨#[122]⟩,zc,false⟩) ((congrFun M D).trans ae) rfl;clear M;cbv;refine(U.mono (O.t _)).load (by rw[F];exact qE) j.eq (λcs a=>?_);have a:cs=[.string nm]:=a;subst a;cbv;refine⟨⟨_,rfl,rfl⟩,?_⟩;cbv;have Y:=JG D _ (l.trans O) (sc);refine⟨(nm,(zsA D,1,1)),⟨?_,?_,?_⟩,Y⟩<;>cbv
   skip;refine jX N 3 (by decide) (by decide) _ (λzj jj ab al aG=>?_);have Tz:=nW zj jj ab (by rw[al,V]);cbv;refine⟨?_,?_⟩
   .skip;intro n8 c pH B;have l:Le h c:=by rw[B];exact Le.set pH
    have U:=ke (s:=oY) (h:=c) rfl ((congrFun B n8).trans ae) (x:=yX) (y:=jx) (w:=aQz) rfl rfl rfl;clear B;cbv;refine⟨⟨rfl,j.ix (len:=3) OO⟩,?_⟩;cbv;refine(U).load (by rw[F];exact qE) j.eq (λcs a=>?_);have a:cs=[.string nm]:=a;subst a;cbv;rw[Tz];intro D f nj M;have O:Le c f:=by rw[M];exact Le.set nj
    have sc:=bf (s:=bH) (h:=f) (x:=⟨⟨#[122]⟩,zc,false⟩) ((congrFun M D).trans ae) rfl;clear M;cbv;refine(U.mono (O.t _)).load (by rw[F];exact qE) j.eq (λcs a=>?_);have a:cs=[.string nm]:=a;subst a;cbv;refine⟨⟨_,rfl,rfl⟩,?_⟩;cbv;have Y:=JG D _ (l.trans O) (sc);refine⟨(nm,(zsA D,1,1)),⟨?_,?_,?_⟩,Y⟩<;>cbv
   skip;rw[Tz];intro D f nj M;have O:Le h f:=by rw[M];exact Le.set nj
   have sc:=bf (s:=bH) (h:=f) (x:=⟨⟨#[122]⟩,zc,false⟩) ((congrFun M D).trans ae) rfl;clear M;cbv;intro n8 c pH B;have l:Le f c:=by rw[B];exact Le.set pH
   have U:=ke (s:=oY) (h:=c) rfl ((congrFun B n8).trans ae) (x:=yX) (y:=jx) (w:=aQz) rfl rfl rfl;clear B;cbv;refine⟨⟨rfl,j.ix (len:=3) OO⟩,?_⟩;cbv;refine(U).load (by rw[F];exact qE) j.eq (λcs a=>?_);have a:cs=[.string nm]:=a;subst a;cbv;have Y:=JG D _ (O.trans l) (sc.mono (l.t _));refine⟨(nm,(zsA D,1,1)),⟨?_,?_,?_⟩,Y⟩<;>cbv
  intro g c Y;rw[fD]at Y;cbv;obtain⟨g1,sb,sn,sc⟩:=g;obtain⟨l,yB,qs⟩:=Y;have yB:g1=nm:=yB;subst yB;have qs:Sl 202 bH c (.slice sb sn sc) [⟨⟨#[122]⟩,zc,false⟩]:=qs;have XT:sn=1:=qs.len;have H:=l _ _ gw;have T:=q.le l;have r1:=r.le l;clear fD JG;repeat (first|rw[av A] | (refine cr H ?_;cbv)|(refine⟨⟨_,rfl,rfl⟩,?_⟩;cbv))
  refine RM T qs (by omega) aU Tt sm n2 n3 n4 (λf x2 q2=>?_);rw[hS,I]at q2 |-;have q2:tD f s p o S L:=q2;have Q:=x2 _ _ H (λ_ _ _ b=>by cases b;decide);have Z:=r1.lt (x2.t (by decide)) (nC _);have bq:=qs.mono (x2.t (by decide));cbv;repeat (first|rw[av A] | (refine cr Q ?_;cbv)|(refine⟨⟨_,rfl,rfl⟩,?_⟩;cbv))
  refine MZ Z FE tw.gL bc (by omega) bq (by omega) n1 n3 n4 (λh3 K r3=>?_);rw[hS,I]at r3 |-;have r3:yd nH h3 t x o S L:=r3;have:=hk h3 o S L ⟨K _ _ Q (λ_ _ _ b=>by cases b;decide)⟩ (q2.lt (K.t (by decide))) r3 E;clear hk;cbv;rw[ag];cbv;exact this
 have ao:∃nm,[yX,hQa,hQI][n]? =some nm/\nm≠jx/\nm.size<=4:=by
  have:n=0\/n=1\/n=2:=by omega
  rcases this with rfl|rfl|rfl
  .exact⟨_,rfl,by decide,by decide⟩
  .exact⟨_,rfl,by decide,by decide⟩
  exact⟨_,rfl,by decide,by decide⟩
 obtain⟨nm,qE,Yi,bj⟩:=ao;obtain⟨⟨e,o,S⟩,I⟩:∃X,nG G d nm=X:=⟨_,rfl⟩;have E:=R.drop hP bj Yi;rw[I]at E;have E:WI P (m+1) o S L:=E;cbv;repeat (rw[au A];cbv)
 intro n8 c pH B;have l:Le h c:=by rw[B];exact Le.set pH
 have U:=ke (s:=oY) (h:=c) rfl ((congrFun B n8).trans ae) (x:=yX) (y:=hQa) (w:=hQI) rfl rfl rfl;clear B;cbv;refine jX N 3 (by decide) (by decide) _ (λzi J j F OO=>?_);have F:J=n:=by rw[F,V]
 cbv;refine⟨⟨rfl,j.ix (len:=3) OO⟩,?_⟩;cbv;refine(U).load (by rw[F];exact qE) j.eq (λcs a=>?_);have a:cs=[.string nm]:=a;subst a;cbv;have H:=l _ _ gw;have T:=q.le l;have r1:=r.le l;repeat (first|rw[av A] | (refine cr H ?_;cbv)|(refine⟨⟨_,rfl,rfl⟩,?_⟩;cbv))
 refine eKa T nm (by omega) n2 n3 n4 (λf x2 q2=>?_);rw[I]at q2 |-;have q2:tD f s p o S L:=q2;have Q:=x2 _ _ H (λ_ _ _ b=>by cases b;decide);have Z:=r1.lt (x2.t (by decide)) (nC _);cbv;repeat (first|rw[av A] | (refine cr Q ?_;cbv)|(refine⟨⟨_,rfl,rfl⟩,?_⟩;cbv))
 refine cZw Z FE tw.gL Yr nm n1 n3 n4 (λh3 K r3=>?_);rw[I]at r3 |-;have r3:yd nH h3 t x o S L:=r3;have:=hk h3 o S L ⟨K _ _ Q (λ_ _ _ b=>by cases b;decide)⟩ (q2.lt (K.t (by decide))) r3 E;clear hk;cbv;rw[ag];cbv;exact this
theorem aXl:Tryz.prog.underlying 113=some (.struct (Tryz.prog.fieldsOf 113)):=by kernel_rfl
theorem aKb:Tryz.prog.eqGuardType Tryz.prog.depth 113=false:=by kernel_rfl
theorem aJm:Tryz.prog.stoodInHeld 113=false:=by kernel_rfl
theorem aJL:((Tryz.prog.fieldsOf 113).toList.map λf=>(f.name,f.type,f.offset))=[("N",3,0),("Prev",100,1),("Root",100,33),("Count",3,65)]:=by kernel_rfl
theorem QZ{P:Program}{d:Nat}:∀ {fs:List Field} {L:List (String×TypeId×Nat)},(fs.map λf=>(f.name,f.type,f.offset))=L->(∀f∈L,f.1≠ "_" /\∃a b,(part f.2.1 xs f.2.2).run P w=.ok a w/\(part f.2.1 ys f.2.2).run P w=.ok b w/\(Op.equalIn d f.2.1 a b).run P w=.ok true w)->(Op.eqFields d xs ys fs).run P w=.ok true w
 | [],L,_,_=>by rw[Op.eqFields.eq_1];rfl
 |f::fs,L,j,h=>by
  subst j;obtain⟨n,a,b,c,e,i⟩:=h (f.name,f.type,f.offset) (kQJ ..);have l:=QZ (fs:=fs) rfl (λg k=>h g (jKQ _ k));rw[Op.eqFields.eq_2,if_pos n];have c:(part f.type xs f.offset).run P w=.ok a w:=c;have e:(part f.type ys f.offset).run P w=.ok b w:=e;have i:(Op.equalIn d f.type a b).run P w=.ok true w:=i;simp only[nX,c,e,i,mB,kXi,jKw,if_false];exact l
theorem aJU(w:World){d:Nat}{c:Int}{p r:Bs}(y:p.length=32)(z:r.length=32)(x0:xs[0]? =some (.int .i64 n))(A:xs.extract 1 33=List.toArray (aQ p))(B:xs.extract 33 65=List.toArray (aQ r))(C:xs[65]? =some (.int .i64 c)):
 (Op.equalIn (d+3) 113 (.agg xs) (.agg xs)).run Tryz.prog w=.ok true w:=by
 have i:∀o v,xs[o]? =some v->(part 3 xs o).run Tryz.prog w=.ok v w:=λo v h=>by
  simp[part,isAgg,run_underlying zZ,h]
 have a:∀o l,xs.extract o (o+32)=List.toArray (aQ l)->(part 100 xs o).run Tryz.prog w=.ok (.agg (aQ l).toArray) w:=λo l h=>by
  unfold part isAgg;simp only[nX,run_underlying pM,mB,va,if_true,Hv];rw[h]
 have b:=i 0 _ x0;have g:=a 1 p A;have j:=a 33 r B;have k:=i 65 _ C;have e1:=Fp (P:=Tryz.prog) (w:=w) (d:=d+1) (t:=3) (n:=n) zZ;have u:=Fp (P:=Tryz.prog) (w:=w) (d:=d+1) (t:=3) (n:=c) zZ;have q:=zy (P:=Tryz.prog) (w:=w) (d:=d) (t:=100) (e:=5) pM Ep Ah y;have s:=zy (P:=Tryz.prog) (w:=w) (d:=d) (t:=100) (e:=5) pM Ep Ah z;rw[run_equalIn_agg w (d+2) _ _ _ aXl aJm];have x:=aJL;clear i a;generalize (Tryz.prog.fieldsOf 113).toList=fs at *;generalize Tryz.prog=P at *;refine QZ x (λf m=>?_);simp only[xl,kQx,or_false]at m;rcases m with rfl|rfl|rfl|rfl
 .exact⟨by decide,_,_,b,b,e1⟩
 .exact⟨by decide,_,_,g,g,q⟩
 .exact⟨by decide,_,_,j,j,s⟩
 exact⟨by decide,_,_,k,k,u⟩
theorem aZp{x:Operand}{c:Int}{b:Nat->Int}{p r:Bs}(h:hl a=aQ p)(e:hl b=aQ r)(g:p.length=32)(i:r.length=32){k:Value->Prop}(f:k (.bool false)):
 uj (λ_=>Tryz.prog) (λ_=>do
  eqGuard .neq 113 x y (.agg (zT n a b c).toArray) (.agg (zT n a b c).toArray)
  Go.binOp .neq 113 (.agg (zT n a b c).toArray) (.agg (zT n a b c).toArray)) k:=by
 refine⟨_,λw=>?_,f⟩;have x0:(zT n a b c).toArray[0]? =some (.int .i64 n):=rfl;have m:(zT n a b c).toArray[65]? =some (.int .i64 c):=rfl;have j:(zT n a b c).toArray.extract 1 33=List.toArray (aQ p):=by rw[List.extract_toArray,<-h];exact congrArg List.toArray (show((zT n a b c).drop 1).take 32=hl a from rfl)
 have l:(zT n a b c).toArray.extract 33 65=List.toArray (aQ r):=by rw[List.extract_toArray,<-e];exact congrArg List.toArray (show((zT n a b c).drop 33).take 32=hl b from rfl)
 generalize List.toArray (zT n a b c)=xs at *;rw[nX,run_eqGuard_agg w _ _ _ _ _ _ aKb,mB];rw[run_neq_struct,show(10000:Nat)=9997+3 from rfl];generalize 9997=d;rw[aJU w g i x0 j l m];rfl
theorem Ix{cs:List Value}{x:sf}(q:dU.R h cs x):∃g r,hl g=aQ x.prev/\hl r=aQ x.root/\x.prev.length=32/\x.root.length=32/\cs=zT x.n g r x.count:=by obtain⟨c,p,a⟩:=q;obtain⟨g,X⟩:=sK (b:=x.prev) p;obtain⟨r,H⟩:=sK (b:=x.root) a;exact⟨g,r,X,H,p,a,by rw[c,mW,X,H]⟩
theorem ZB{cs:List Value}{x:sf}(q:dU.R h cs x)(a:dU.R h cs' x):cs'=cs:=a.1.trans q.1.symm
theorem Rq{l:Int}{o a:Option Addr}{f n r d:Nat}{op:List mu}{bs:List sf}(q:vd h b f c o n r a j d ⟨l,op,bs,ts⟩)(hb:bs.length<=2^20)
 (U:∀h' Q Z R,Le h h'->Bm h' b f c Q Z R a j d ⟨l,op,bs,ts⟩->k (.agg #[.int .i64 l,.slice b f c,.slice Q Z R,.slice a j d]) h'):
 Ct 29 [.agg #[.int .i64 l,.slice b f c,.slice o n r,.slice a j d]] h k:=by
 have C:Sl 224 dU h (.slice o n r) bs:=q.dJ;have V:=C.len;have q1:=q.oR;have q3:=q.Es;obtain⟨J,D⟩:∃J:Nat->((Option Addr×Nat×Nat)×Int)->ad->Prop,∀w g h',J w g h'=(∃i,aZ g.2 i/\w=n-i/\i<=n/\Le h h'/\bt 113 dU h h' (.slice g.1.1 g.1.2.1 g.1.2.2) (bs.take i)):=⟨_,λ_ _ _=>rfl⟩;have L:J n ((none,0,0),0) h:=by rw[D];exact⟨0,⟨rfl⟩,rfl,by omega,Le.refl _,bt.nil⟩
 refine cg hKu Tryz.func29 λA hA=>?_;cbv;refine aX.go (G:=(Option Addr×Nat×Nat)×Int) (λg=>[(4,.v (.int .i64 g.2))]) (λg=>[(1,[.int .i64 l,.slice b f c,.slice o n r,.slice a j d]),(2,[.int .i64 0,.slice none 0 0,.slice none 0 0,.slice none 0 0]),(3,[.int .i64 l,.slice b f c,.slice g.1.1 g.1.2.1 g.1.2.2,.slice a j d])]) (λw g h'=>J w g h') n ((none,0,0),0) (by constructor<;>cbv) L ?_
 intro w g B S;rw[D]at S;cbv;obtain⟨⟨M,y,N⟩,z⟩:=g;obtain⟨i,e,hw,hi,p,m⟩:=S;have e:aZ z i:=e;have m:bt 113 dU h B (.slice M y N) (bs.take i):=m;have nq:=m.sl.len;rw[eA]at nq;have K:A .aN .lss z (A .nat n)=decide (i<n):=by rw[aR A,e.eq,hA.nat];exact decide_eq_decide.2 (by show(i:Int)<(n:Int)↔_;omega)
 rw[K];by_cases t:i<n
 .rw[ak t];obtain⟨x,hx⟩:=cB bs i;have ix:=e.ix t;have iV:o.isSome=true:=C.bp;have aU:n-(i+1)<w:=by omega
  have T:=lY hx;have F:∀u m' c' h',Le h h'->bt 113 dU h h' (.slice u m' c') (bs.take i++[x])->J (n-(i+1)) ((u,m',c'),A .aT .add .i64 z 1) h':=λu m' c' h' l' q'=>by
   rw[D];exact⟨i+1,e.succ (A:=A),rfl,t,l',by rw[T];exact q'⟩
  have oF:y+1<=2^39:=by omega
  clear K D L T;generalize bs.take i=Lc at *;obtain⟨xn,xp,xr,xc⟩:=x;cbv;refine⟨⟨iV,ix⟩,?_⟩;cbv;refine(C.mono (p.t _)).load hx e.eq (λcs ar=>?_);obtain⟨O,P,X,H,hp,hr,rfl⟩:=Ix ar;have X:hl O=aQ xp:=X;have H:hl P=aQ xr:=H;cbv;intro n4 h4 FA v;have W:Le B h4:=by rw[v];exact Le.set FA
  have q4:=bf (s:=dU) (cs:=zT xn O P xc) (x:=⟨xn,xp,xr,xc⟩) ((congrFun v n4).trans ae) ⟨(mW ..).trans (by rw[X,H]),hp,hr⟩;clear v;cbv;refine(m.mono (W.t _)).append q4 (by decide) rfl (by decide) oF (p.trans W) (λY E I h5 JJ l5 t5 k5 q5=>?_);have iD:=F E Y I h5 l5 q5;clear F k5;cbv;refine⟨_,((E,Y,I),A .aT .add .i64 z 1),aU,by constructor<;>cbv,iD⟩
 rw[bn t];rw[ie (by omega)]at m;have:=U B M y N p ⟨q1.mono (p.t _),m.sl,q3.mono (p.t _)⟩;clear D L U;cbv;exact this
theorem IB{d:Option Addr}{n e:Nat}{xs:List mu}(q:Sl 172 dY h (.slice b n c) xs)(p:Sl 172 dY h (.slice d m e) xs)(hk:k (.bool true) h):
 Ct 87 [.slice b n c,.slice d m e] h k:=by
 obtain⟨A,E⟩:=Ar.ex;have hn:=q.len;have hm:=p.len;have jQ:=q.bound.1;have TO:A .not true=false:=by rw[E.not];rfl
 have J:∀u v:Nat,u=v->A .aN .neq (A .nat u) (A .nat v)=false:=λu v e=>by rw[e,az A];simp
 have Q:∀z:Int,A .aN .neq z z=false:=λz=>by rw[az A];simp
 refine fz hJz A Tryz.func87 ?_;cbv;rw[J n m (by omega)];cbv;refine aX.go (G:=Int) (λz=>[(5,.v (.int .i64 z))]) (λ_=>[]) (λw z h'=>∃i,aZ z i/\w=n-i/\i<=n/\h'=h) n 0 (by constructor<;>cbv) ⟨0,⟨rfl⟩,rfl,by omega,rfl⟩ ?_
 intro w z h' I;cbv;obtain⟨i,t,hw,hi,rfl⟩:=I;have f1:A .aN .lss z (A .nat n)=decide (i<n):=by rw[aR A,t.eq,E.nat];exact decide_eq_decide.2 (by show(i:Int)<(n:Int)↔_;omega)
 rw[f1];by_cases F:i<n
 .rw[ak F];obtain⟨x,hx⟩:=cB xs i;have ix:=t.ix F;have K:=t.ix (len:=m) (by omega);have s1:b.isSome=true:=q.bp;have s2:d.isSome=true:=p.bp;have aU:n-(i+1)<w:=by omega
  have ll:=t.succ (A:=A);have f:=t.eq;obtain⟨R,H⟩:=x;cbv;refine⟨⟨s1,ix⟩,?_⟩;cbv;refine q.cu hx f (o:=0) (m:=1) (by decide) (λcs a=>?_);obtain⟨_,_,_,a,-⟩:=a;have a:cs=[.int .i64 R,_]:=a;subst a;cbv;refine⟨⟨s2,K⟩,?_⟩;cbv;refine p.cu hx f (o:=0) (m:=1) (by decide) (λcs a=>?_);obtain⟨_,_,_,a,-⟩:=a;have a:cs=[.int .i64 R,_]:=a;subst a;cbv;rw[Q];cbv;refine⟨⟨s1,ix⟩,?_⟩;cbv;refine q.cu hx f (o:=1) (m:=1) (by decide) (λcs a=>?_);obtain⟨ub,L,uc,a,M⟩:=a;have a:cs=[.int .i64 R,.slice ub L uc]:=a;have M:Sl 161 bz h' (.slice ub L uc) H:=M;have ul:=M.len;subst a;cbv;refine⟨⟨s2,K⟩,?_⟩;cbv;refine p.cu hx f (o:=1) (m:=1) (by decide) (λcs a=>?_);obtain⟨vb,N,vc,a,P⟩:=a;have a:cs=[.int .i64 R,.slice vb N vc]:=a;have P:Sl 161 bz h' (.slice vb N vc) H:=P;have vl:=P.len;subst a;cbv;rw[J L N (by omega)];cbv;refine aX.go (G:=Int) (λy=>[(6,.v (.int .i64 y))]) (λ_=>[]) (λw y r=>∃j,aZ y j/\w=H.length-j/\j<=H.length/\r=h') H.length 0 (by constructor<;>cbv) ⟨0,⟨rfl⟩,rfl,by omega,rfl⟩ ?_
  intro w2 y r I;cbv;obtain⟨j,s,HP,hj,rfl⟩:=I;refine⟨⟨s1,ix⟩,?_⟩;cbv;refine q.cu hx f (o:=1) (m:=1) (by decide) (λcs a=>?_);obtain⟨S,B,T,a,C⟩:=a;have a:cs=[.int .i64 R,.slice S B T]:=a;have C:Sl 161 bz r (.slice S B T) H:=C;have al:=C.len;subst a;cbv;have Y:A .aN .lss y (A .nat B)=decide (j<H.length):=by rw[aR A,s.eq,E.nat];exact decide_eq_decide.2 (by show(j:Int)<(B:Int)↔_;omega)
  rw[Y];by_cases O:j<H.length
  .rw[ak O];obtain⟨g,hg⟩:=aJ (xs:=H) (i:=j) O;have tY:H.length-(j+1)<w2:=by omega
   have Z:=s.succ (A:=A) (by have:=C.bound.1;omega);have X:=s.eq;obtain⟨D,go,gr⟩:=g;clear Y;cbv;refine⟨⟨s1,ix⟩,?_⟩;cbv;refine q.cu hx f (o:=1) (m:=1) (by decide) (λcs a=>?_);obtain⟨U,W,V,a,eq⟩:=a;have a:cs=[.int .i64 R,.slice U W V]:=a;have eq:Sl 161 bz r (.slice U W V) H:=eq;have el:=eq.len;subst a;cbv;refine⟨⟨eq.bp,s.ix (by omega)⟩,?_⟩;cbv;refine eq.load hg X (λcs a=>?_);obtain⟨r1,qu,qB,a,EV⟩:=a;have a:cs=[.string D,.int .i64 go,.slice r1 qu qB]:=a;subst a;cbv;refine⟨⟨s2,K⟩,?_⟩;cbv;refine p.cu hx f (o:=1) (m:=1) (by decide) (λcs a=>?_);obtain⟨fb,fn,fc,a,l⟩:=a;have a:cs=[.int .i64 R,.slice fb fn fc]:=a;have l:Sl 161 bz r (.slice fb fn fc) H:=l;have fl:=l.len;subst a;cbv;refine⟨⟨l.bp,s.ix (by omega)⟩,?_⟩;cbv;refine l.load hg X (λcs a=>?_);obtain⟨r2,qj,qz,a,BR⟩:=a;have a:cs=[.string D,.int .i64 go,.slice r2 qj qz]:=a;subst a;cbv;refine BO (x:=⟨D,go,gr⟩) EV BR ?_;cbv;rw[TO];cbv;refine⟨_,A .aT .add .i64 y 1,tY,by constructor<;>cbv,j+1,Z,rfl,by omega,rfl⟩
  rw[bn O];cbv;refine⟨_,A .aT .add .i64 z 1,aU,by constructor<;>cbv,i+1,ll,rfl,by omega,rfl⟩
 rw[bn F];cbv;exact hk
theorem cZr{t g D j l:Option Addr}{M y n B a C I e1 F d H:Nat}(q:Bm h t M y f n B g a C L)(p:Bm h D I e1 j m F l d H L)(hk:k (.bool true) h):
 Ct 31 [.agg #[.int .i64 L.next,.slice t M y,.slice f n B,.slice g a C],.agg #[.int .i64 L.next,.slice D I e1,.slice j m F,.slice l d H]] h k:=by
 obtain⟨A,X⟩:=Ar.ex;obtain⟨q1,o,s⟩:=q;obtain⟨p1,N,O⟩:=p;obtain⟨P,op,bs,ts⟩:=L;have q1:Sl 172 dY h (.slice t M y) op:=q1;have p1:Sl 172 dY h (.slice D I e1) op:=p1;have o:Sl 113 dU h (.slice f n B) bs:=o;have N:Sl 113 dU h (.slice j m F) bs:=N;have s:Sl 47 gF h (.slice g a C) ts:=s;have O:Sl 47 gF h (.slice l d H) ts:=O;have l2:=o.len;have al:=N.len;have l3:=s.len;have UL:=O.len;have ag:=o.bound.1;have ab:=s.bound.1;have TO:A .not true=false:=by rw[X.not];rfl
 have J:∀u v:Nat,u=v->A .aN .neq (A .nat u) (A .nat v)=false:=λu v e=>by rw[e,az A];simp
 have W:∀z:Int,A .aN .neq z z=false:=λz=>by rw[az A];simp
 refine fz hKs A Tryz.func31 ?_;cbv;rw[W];cbv;refine IB q1 p1 ?_;cbv;rw[TO];cbv;rw[J n m (by omega)];cbv;rw[J a d (by omega)];cbv;refine aX.go (G:=Int) (λz=>[(5,.v (.int .i64 z))]) (λ_=>[(2,[.int .i64 P,.slice t M y,.slice f n B,.slice g a C]),(3,[.int .i64 P,.slice D I e1,.slice j m F,.slice l d H])]) (λw z h'=>∃i,aZ z i/\w=n-i/\i<=n/\h'=h) n 0 (by constructor<;>cbv) ⟨0,⟨rfl⟩,rfl,by omega,rfl⟩ ?_
 intro w z h' Y;cbv;obtain⟨i,b,hw,hi,rfl⟩:=Y;have V:A .aN .lss z (A .nat n)=decide (i<n):=by rw[aR A,b.eq,X.nat];exact decide_eq_decide.2 (by show(i:Int)<(n:Int)↔_;omega)
 rw[V];by_cases c:i<n
 .rw[ak c];obtain⟨x,hx⟩:=cB bs i;have ix:=b.ix c;have K:=b.ix (len:=m) (by omega);have s1:f.isSome=true:=o.bp;have s2:j.isSome=true:=N.bp;have U:n-(i+1)<w:=by omega
  have Z:=b.succ (A:=A);have E:=b.eq;cbv;refine⟨⟨s1,ix⟩,?_⟩;cbv;refine o.load hx E (λcs r=>?_);obtain⟨gp,gr,HX,HW,hp,hr,rfl⟩:=Ix r;generalize x.n=xn at *;generalize x.count=xc at *;cbv;refine⟨⟨s2,K⟩,?_⟩;cbv;refine N.load hx E (λcs T=>?_);obtain rfl:=ZB r T;cbv;refine aZp HX HW hp hr ?_;cbv;refine⟨_,A .aT .add .i64 z 1,U,by constructor<;>cbv,i+1,Z,rfl,by omega,rfl⟩
 rw[bn c];cbv;refine aX.go (G:=Int) (λz=>[(6,.v (.int .i64 z))]) (λ_=>[(2,[.int .i64 P,.slice t M y,.slice f n B,.slice g a C]),(3,[.int .i64 P,.slice D I e1,.slice j m F,.slice l d H])]) (λw z h2=>∃i,aZ z i/\w=a-i/\i<=a/\h2=h') a 0 (by constructor<;>cbv) ⟨0,⟨rfl⟩,rfl,by omega,rfl⟩ ?_
 intro w z h2 Y;cbv;obtain⟨i,b,hw,hi,rfl⟩:=Y;have V:A .aN .lss z (A .nat a)=decide (i<a):=by rw[aR A,b.eq,X.nat];exact decide_eq_decide.2 (by show(i:Int)<(a:Int)↔_;omega)
 rw[V];by_cases c:i<a
 .rw[ak c];obtain⟨x,hx⟩:=cB ts i;have ix:=b.ix c;have K:=b.ix (len:=d) (by omega);have s1:g.isSome=true:=s.bp;have s2:l.isSome=true:=O.bp;have U:a-(i+1)<w:=by omega
  have Z:=b.succ (A:=A);have E:=b.eq;cbv;refine⟨⟨s1,ix⟩,?_⟩;cbv;refine s.load hx E (λcs r=>?_);obtain⟨v,rfl,qv⟩:=r;obtain⟨Q,S,R,rfl⟩:∃Q S R,v=.slice Q S R:=by obtain⟨b',cap,e1,-⟩:=qv.out;exact⟨_,_,_,e1⟩
  cbv;refine⟨⟨s2,K⟩,?_⟩;cbv;refine O.load hx E (λcs r=>?_);obtain⟨v,rfl,pv⟩:=r;obtain⟨ub,um,uc,rfl⟩:∃Q S R,v=.slice Q S R:=by obtain⟨b',cap,e1,-⟩:=pv.out;exact⟨_,_,_,e1⟩
  cbv;refine IB qv pv ?_;cbv;rw[TO];cbv;refine⟨_,A .aT .add .i64 z 1,U,by constructor<;>cbv,i+1,Z,rfl,by omega,rfl⟩
 rw[bn c];cbv;exact hk
theorem Fz.Vc{A:ad}{f:FuncId}{args:List Value}{P:Value->ad->Prop}(q:Fz h0 A h)(c:Ct f args A P)(e:∀v x h',P v x->Fz h0 x h'->k v h'):Ct f args h k:=
 Gt.cXw q.le c (λv x h' hR l fr=>e v x h' hR ⟨l,λb o d=>by
  have a:=q.xN b o d;exact fr b o a.2 a.1⟩)
theorem gKN{n:Nat}{xs:List Gv}(q:Hb CI h (.slice b n c) xs)(l:∀g:Bool,(g=true->n<=70)->k (.bool g) h):
 Ct 20 [.slice b n c] h k:=by
 have p:=q.len;have Q:=q.bound;refine cg hKz Tryz.func20 λA j=>?_;cbv;refine aX.go (G:=Int) (λz=>[(3,.v (.int .i64 z))]) (λ_=>[]) (λw z h'=>∃i,aZ z i/\w=n-i/\i<=n/\h'=h) n 0 (by constructor<;>cbv) ⟨0,⟨rfl⟩,rfl,by omega,rfl⟩ ?_
 intro w z h' I;cbv;obtain⟨i,f,N,L,rfl⟩:=I;have s:A .aN .lss z (A .nat n)=decide (i<n):=by rw[aR A,f.eq,j.nat];exact decide_eq_decide.2 (by show(i:Int)<(n:Int)↔_;omega)
 rw[s];by_cases d:i<n
 .rw[ak d];obtain⟨x,hx⟩:=cB xs i;have ix:=f.ix d;have s1:b.isSome=true:=q.bp;have U:n-(i+1)<w:=by omega
  have F:=f.succ (A:=A);have r:=f.eq;obtain⟨u,v,y,B,C,D,E,K⟩:=x;have M:=l false (λe=>by cases e);cbv;refine⟨⟨s1,ix⟩,?_⟩;cbv;refine q.tQ hx r (o:=7) (m:=1) (by decide) (λcs a _=>?_);obtain⟨H,J,a⟩:=a;have a:cs=[.int .i64 u,.int .i64 v,.int .i64 y,.int .i64 B,.int .i64 C,.int .i64 D,.bool E,.slice H K J]:=a;subst a;cbv;refine ba (λd=>?_) (λd=>?_)
  .cbv;exact M
  cbv;refine⟨_,A .aT .add .i64 z 1,U,by constructor<;>cbv,i+1,F,rfl,by omega,rfl⟩
 rw[bn d];have t:A .aN .leq (A .nat n) 70=decide (n<=70):=by rw[QA A,j.nat];exact decide_eq_decide.2 (by show(n:Int)<=70↔_;omega)
 have:=l (decide (n<=70)) (λe=>lA e);cbv;rw[t];exact this
theorem WI.up(q:WI P m G d L):WI P (m+1) G d L:=⟨q.g.up,q.sj.le (jKr m),q.ta,q.Fh.up⟩
theorem TY(q:GI P m G)(f:0<P){D:Int×Bs×Int}{b:Lg}(h:zx G L=(D,b,L')):zx b L'=(D,b,L')/\(D.2.2=0\/(D.2.2=2/\L'.dJ.length=0)\/D.2.2=14):=by
 obtain⟨r,I,-⟩:=q.log;have i:=zA I (gD (cW (dq L).dJ).1 (cW (dq L).dJ).2.1) (by
  unfold gD;simp only[cy,wS,yk,jH,bY];omega) f
 have hl:∀bs:List sf,(cW bs).2.2=0\/((cW bs).2.2=2/\bs.length=0):=λbs=>by
  unfold cW;split
  .rename_i h0;exact .inr ⟨rfl,by rw[List.getLast?_eq_none_iff.1 h0];rfl⟩
  exact .inl rfl
 have h':=h;unfold zx at h;by_cases o:L.oR.length=0
 .rw[if_pos o]at h;obtain⟨rfl,rfl,rfl⟩:cW L.dJ=D/\G=b/\L=L':=by injection h with c a;injection a with a d;exact⟨c,a,d⟩
  exact⟨h',by rcases hl L.dJ with e|e;exact .inl e;exact .inr (.inl e)⟩
 rw[if_neg o]at h;rcases i with⟨g,e,-⟩ |e
 .rw[e]at h;rw[if_pos rfl]at h;obtain⟨rfl,rfl,rfl⟩:cW (dq L).dJ=D/\g=b/\dq L=L':=by injection h with c a;injection a with a d;exact⟨c,a,d⟩
  refine⟨?_,by rcases hl (dq L).dJ with e|e;exact .inl e;exact .inr (.inl e)⟩;unfold zx;rw[if_pos (show(dq L).oR.length=0 from rfl)]
 rw[e]at h;rw[if_neg (show ¬(14:Int)=0 by decide)]at h;obtain⟨rfl,rfl,rfl⟩:(0,List.replicate 32 0,(14:Int))=D/\G=b/\L=L':=by injection h with c a;injection a with a d;exact⟨c,a,d⟩
 exact⟨h',.inr (.inr rfl)⟩
theorem Sr:SJ 0 eR:=by
 have C:dA (gi 0).S.name (gi 1).S.name=-1:=by kernel_rfl
 have X:dA (gi 0).S.name (gi 2).S.name=-1:=by kernel_rfl
 have Z:dA (gi 1).S.name (gi 2).S.name=-1:=by kernel_rfl
 have l:∀t,(gi t).S.bB=bG/\(gi t).S.key=0/\SO (gi t).rows:=λt=>⟨rfl,rfl,SO.nil⟩;have m:(gi 0).S.name.size=2:=by kernel_rfl
 have f:(gi 1).S.name.size=2:=by kernel_rfl
 have e:(gi 2).S.name.size=2:=by kernel_rfl
 have T:TW eR.ao:=by
  refine⟨?_,λt a=>?_,by show(3:Nat)<=8;omega⟩
  .show [gi 0,gi 1,gi 2].Pairwise _;simp only[jKT,xl,kQx,or_false,forall_eq_or_imp,forall_eq,List.Pairwise.nil,and_true,C,X,Z,false_imp_iff,implies_true];decide
  have a:t∈[gi 0,gi 1,gi 2]:=a;simp only[xl,kQx,or_false]at a;rcases a with rfl|rfl|rfl
  .exact⟨λ_=>⟨rfl,rfl⟩,SO.nil,by omega,λ_=>rfl⟩
  .exact⟨λ_=>⟨rfl,rfl⟩,SO.nil,by omega,λ_=>rfl⟩
  exact⟨λ_=>⟨rfl,rfl⟩,SO.nil,by omega,λ_=>rfl⟩
 refine⟨⟨T,List.Pairwise.nil,λw h=>(by cases h),λw h=>(by cases h),λw h=>(by cases h),λi j x y b=>?_,λx hx=>(by cases hx),λx hx=>(by cases hx),λw h=>(by cases h)⟩,λw h=>(by cases h),kB _,kB _⟩;have b:([]:List bU)[i]? =some x:=b;simp at b
theorem VZ(q:BW G P 3)(a:3<=P):WI P 0 G eR lz:=by obtain⟨r,d,sl,I,-,-,-,hl⟩:=q.out;have s:=q.s;exact⟨⟨q.lb,⟨r,I,by omega⟩,by omega⟩,Sr,⟨gi 0,kQJ ..,rfl⟩,⟨⟨jKt _,jKt _⟩,λt h=>(by cases h),nr _,nr _,nr _⟩⟩
theorem aXo{n:Nat}{xs:List Gv}(q:Hb CI h0 (.slice b n c) xs)(ok:∀x∈xs,RQ x):Ct 7 [.slice b n c] h0 (λv h'=>Le h0 h'/\v=.bool true):=by
 obtain⟨A,hA⟩:=Ar.ex;have cn:=q.len;have TO:A .not true=false:=by rw[hA.not];rfl
 have aW:A .not false=true:=by rw[hA.not];rfl
 have U:∀z:Int,A .aN .eql z z=true:=λz=>by rw[au A];simp
 refine fU A [11,14] (aj T7.aw T7.bq) Tryz.func7 rfl (by kernel_rfl) ?_;cbv;have z0:Fz h0 nH h0:=⟨nC _,λb o hb=>⟨hb,rfl⟩⟩;refine z0.Vc (aZD _ (k:=λv h'=>v=.bool true) (λh1 x1=>rfl)) (λv aA h1 j z1=>?_);subst j;have bx:=q.mono z1.base;cbv;rw[TO];cbv;refine gKN bx (λbo yC=>?_);cases bo with
 |false=>have:=z1.base;cbv;rw[aW];cbv;first|exact⟨this,rfl⟩ |exact⟨this,trivial⟩
 |true=>
  have cq:=yC rfl;cbv;rw[TO];cbv;refine z1.Vc (aKu (P:=120) ⟨rfl⟩ (by omega) (by omega) (k:=λv h'=>∃w p x s t G,v=.zP w/\Wl h' w p x s t/\tD h' s p G eR lz/\yd nH h' t x G eR lz/\BW G 120 3) (λh' w p x s t G a1 a2 a3 a4=>⟨w,p,x,s,t,G,rfl,a1,a2,a3,a4⟩)) (λv aB h2 j z2=>?_);obtain⟨w,p,x,s,t,G,rfl,w2,q2,r2,bw⟩:=j;have R:WI 120 0 G eR lz:=VZ bw (by omega);obtain⟨J,bD⟩:∃J:Nat->Int->ad->Prop,∀v z h',J v z h'=(∃i G d L H,aZ z i/\v=40-i/\i<=40/\i<=n/\Fz h0 H h'/\Wl H w p x s t/\tD H s p G d L/\yd nH H t x G d L/\WI 120 i G d L):=⟨_,λ_ _ _=>rfl⟩;have dL:J 40 0 h2:=by rw[bD];exact⟨0,G,eR,lz,aB,⟨rfl⟩,rfl,by omega,by omega,z2,w2,q2,r2,R⟩
  obtain⟨C,fD⟩:∃C:Unit->ad->Prop,∀g h',C g h'=(∃i G d L H,i<=40/\Fz h0 H h'/\Wl H w p x s t/\tD H s p G d L/\yd nH H t x G d L/\WI 120 i G d L):=⟨_,λ_ _=>rfl⟩;cbv;refine ld.go (G:=Unit) (λ_=>[]) (λ_=>[]) C ?_ ?_;rotate_left
  .intro g h3 hC;rw[fD]at hC;cbv;obtain⟨i,G,d,L,H,al,z3,w3,q3,r3,R⟩:=hC;obtain⟨⟨⟨en,f,ee⟩,G2,⟨B,Q,bs,ts⟩⟩,hW⟩:∃X,zx G L=X:=⟨_,rfl⟩;obtain⟨ax,bQ⟩:=TY R.g (by omega) hW;have Z:=R.hJh (by omega) hW;have Z:WI 120 (i+1) G2 d ⟨B,Q,bs,ts⟩:=Z;obtain⟨S,N,O,n4⟩:=R.g.bJQ (by omega) (by omega);obtain⟨m1,m2,m3,m4⟩:=Z.g.bJQ (by omega) (by omega);have lb:=R.Fh.bKc (by omega);have Jn:=Z.Fh.bKc (by omega);have DV:bs.length<=2^20:=by have:bs.length<=i+1:=Z.Fh.b;omega
   have Ig:f.length=32:=Rd hW;have bQ:ee=0\/(ee=2/\bs.length=0)\/ee=14:=bQ;have ag:=z3.le _ _ w3.out;clear fD bD dL R Z;cbv;repeat (first|rw[av A] | (refine cr ag ?_;cbv)|(refine⟨⟨_,rfl,rfl⟩,?_⟩;cbv))
   refine z3.Vc (cZF q3 lb N O n4 hW (k:=λv h'=>∃g,v=.tuple #[.agg (.int .i64 en::hl g).toArray,.int .i64 ee]/\tD h' s p G2 d ⟨B,Q,bs,ts⟩/\hl g=aQ f/\Wl h' w p x s t) (λh' g x1 q1 hg=>⟨g,rfl,q1,hg,w3.lt (x1.t (by decide))⟩)) (λv aE h5 j z5=>?_);obtain⟨g1,rfl,q5,yB,w5⟩:=j;have cd:=z5.le _ _ w5.out;cbv;repeat (first|rw[av A] | (refine cr cd ?_;cbv)|(refine⟨⟨_,rfl,rfl⟩,?_⟩;cbv))
   refine z5.Vc (Rz q5 (k:=λv h'=>∃a S r h N D e O u,v=.agg #[.int .i64 B,.slice a S r,.slice h N D,.slice e O u]/\Le aE h'/\vd h' a S r h N D e O u ⟨B,Q,bs,ts⟩) (λh' a S r h N D e O u l ql=>⟨a,S,r,h,N,D,e,O,u,rfl,l,ql⟩)) (λv aF h6 j z6=>?_);obtain⟨a,y1,r,h,y2,D,e,y3,u,rfl,l6,qa⟩:=j;have w6:Wl aF w p x s t:=⟨l6 _ _ w5.out⟩;have q6:=q5.le l6;have cb:=z6.le _ _ w6.out;obtain⟨E,FQ⟩:∃E:(Nat->Int)×(Nat->Int)×(Option Addr×Nat×Nat)×(Option Addr×Nat×Nat)×(Option Addr×Nat×Nat)->ad->Prop,∀g h',E g h'=(∃T,Fz h0 T h'/\hl g.1=aQ f/\hl g.2.1=aQ f/\Wl T w p x s t/\tD T s p G2 d ⟨B,Q,bs,ts⟩/\vd T g.2.2.1.1 g.2.2.1.2.1 g.2.2.1.2.2 g.2.2.2.1.1 g.2.2.2.1.2.1 g.2.2.2.1.2.2 g.2.2.2.2.1 g.2.2.2.2.2.1 g.2.2.2.2.2.2 ⟨B,Q,bs,ts⟩):=⟨_,λ_ _=>rfl⟩;cbv;refine ld.go (G:=(Nat->Int)×(Nat->Int)×(Option Addr×Nat×Nat)×(Option Addr×Nat×Nat)×(Option Addr×Nat×Nat)) (λ_=>[(5,.loc 5 0),(6,.v (.int .i64 ee)),(7,.loc 7 0),(8,.loc 8 0),(9,.v (.int .i64 ee))]) (λg=>[(5,.int .i64 en::hl g.1),(7,[.int .i64 B,.slice g.2.2.1.1 g.2.2.1.2.1 g.2.2.1.2.2,.slice g.2.2.2.1.1 g.2.2.2.1.2.1 g.2.2.2.1.2.2,.slice g.2.2.2.2.1 g.2.2.2.2.2.1 g.2.2.2.2.2.2]),(8,.int .i64 en::hl g.2.1)]) E ?_ ?_
   .cbv;repeat (first|rw[av A] | (refine cr cb ?_;cbv)|(refine⟨⟨_,rfl,rfl⟩,?_⟩;cbv))
    refine z6.Vc (cZF q6 Jn m2 m3 m4 ax (k:=λv h'=>∃g,v=.tuple #[.agg (.int .i64 en::hl g).toArray,.int .i64 ee]/\tD h' s p G2 d ⟨B,Q,bs,ts⟩/\hl g=aQ f/\Wl h' w p x s t/\vd h' a y1 r h y2 D e y3 u ⟨B,Q,bs,ts⟩) (λh' g x1 q1 hg=>⟨g,rfl,q1,hg,w6.lt (x1.t (by decide)),qa.ls (x1.t (by decide))⟩)) (λv T h7 j z7=>?_);obtain⟨g2,rfl,q7,HY,w7,I⟩:=j;have hE:E (g1,g2,(a,y1,r),(h,y2,D),(e,y3,u)) h7:=by rw[FQ];exact⟨T,z7,yB,HY,w7,q7,I⟩
    cbv;refine⟨(g1,g2,(a,y1,r),(h,y2,D),(e,y3,u)),⟨?_,?_,?_⟩,hE⟩<;>cbv
   intro g h7 hE;rw[FQ]at hE;cbv;obtain⟨g1,g2,⟨a,y1,r⟩,⟨h,y2,D⟩,⟨e,y3,u⟩⟩:=g;obtain⟨T,z7,yB,HY,w7,q7,I⟩:=hE;have yB:hl g1=aQ f:=yB;have HY:hl g2=aQ f:=HY;have I:vd T a y1 r h y2 D e y3 u ⟨B,Q,bs,ts⟩:=I;have uB:y2=bs.length:=I.dJ.len;have bS:=z7.le _ _ w7.out;clear FQ hW ax lb Jn q3 r3 w3 z3 ag;refine YX yB HY Ig ?_;cbv;rw[U];cbv;repeat (first|rw[av A] | (refine cr bS ?_;cbv)|(refine⟨⟨_,rfl,rfl⟩,?_⟩;cbv))
   refine z7.Vc (Rq I DV (k:=λv h'=>∃V Y W,v=.agg #[.int .i64 B,.slice a y1 r,.slice V Y W,.slice e y3 u]/\Le T h'/\Bm h' a y1 r V Y W e y3 u ⟨B,Q,bs,ts⟩) (λh' V Y W l ql=>⟨V,Y,W,rfl,l,ql⟩)) (λv aH h8 j z8=>?_);obtain⟨e2,o2,cv,rfl,l8,r8⟩:=j;have w8:Wl aH w p x s t:=⟨l8 _ _ w7.out⟩;have q8:=q7.le l8;have bM:=z8.le _ _ w8.out;cbv;repeat (first|rw[av A] | (refine cr bM ?_;cbv)|(refine⟨⟨_,rfl,rfl⟩,?_⟩;cbv))
   refine z8.Vc (Rz q8 (k:=λv h'=>∃a S r h N D e O u,v=.agg #[.int .i64 B,.slice a S r,.slice h N D,.slice e O u]/\Le aH h'/\vd h' a S r h N D e O u ⟨B,Q,bs,ts⟩) (λh' a S r h N D e O u l ql=>⟨a,S,r,h,N,D,e,O,u,rfl,l,ql⟩)) (λv aI h9 j z9=>?_);obtain⟨u1,v1,x1,u2,v2,x2,u3,v3,x3,rfl,l9,bB⟩:=j;have r9:=r8.ls (l9.t _);cbv;refine z9.Vc (Rq bB DV (k:=λv h'=>∃V Y W,v=.agg #[.int .i64 B,.slice u1 v1 x1,.slice V Y W,.slice u3 v3 x3]/\Le aI h'/\Bm h' u1 v1 x1 V Y W u3 v3 x3 ⟨B,Q,bs,ts⟩) (λh' V Y W l ql=>⟨V,Y,W,rfl,l,ql⟩)) (λv aK iw j bl=>?_);obtain⟨e3,o3,ct,rfl,gB,bd⟩:=j;have r9:=r9.ls (gB.t _);cbv;refine bl.Vc (cZr r9 bd (k:=λv h'=>v=.bool true) rfl) (λv aM oM j br=>?_);subst j;have hb:=br.base;have ay:Le h0 oM/\Value.bool true=Value.bool true:=⟨hb,rfl⟩;have bq:A .aN .eql 2 0=false:=by rw[au A];rfl
   have an:A .aN .eql 14 0=false:=by rw[au A];rfl
   have ao:A .aN .eql 14 2=false:=by rw[au A];rfl
   have ch:bs.length=0->A .aN .eql (A .nat y2) 0=true:=λTw=>by rw[au A,hA.nat];exact ak (by show(y2:Int)=0;omega)
   cbv;rcases bQ with rfl| ⟨rfl,Tw⟩ |rfl
   .rw[U];cbv;first|exact ay|exact⟨hb,trivial⟩
   .rw[bq];cbv;rw[U];cbv;rw[ch Tw];cbv;first|exact ay|exact⟨hb,trivial⟩
   rw[an];cbv;rw[ao];cbv;rw[U];cbv;first|exact ay|exact⟨hb,trivial⟩
  cbv;refine aX.go (G:=Int) (λz=>[(4,.v (.int .i64 z))]) (λ_=>[]) (λv z h'=>J v z h') 40 0 (by constructor<;>cbv) dL ?_
  intro v z h3 hI;rw[bD]at hI;cbv;obtain⟨i,G,d,L,H,hz,j,al,fC,z3,w3,q3,r3,R⟩:=hI;have aq:=q.mono z3.base;have f1:A .aN .lss z (A .nat n)=decide (i<n):=by rw[aR A,hz.eq,hA.nat];exact decide_eq_decide.2 (by show(i:Int)<(n:Int)↔_;omega)
  have f2:A .aN .lss z 40=decide (i<40):=by rw[aR A,hz.eq];exact decide_eq_decide.2 (by omega)
  rw[f1];by_cases hd:i<n/\i<40
  .obtain⟨OU,ab⟩:=hd;obtain⟨y,hy⟩:=cB xs i;have lD:=ok y (cK hy);have ix:=hz.ix OU;have iV:b.isSome=true:=q.bp;have aU:40-(i+1)<v:=by omega
   have ll:=hz.succ (A:=A);have dG:=hz.eq;have gw:=w3.out;have bX:∀h' F K L' aD,Fz h0 aD h'->Wl aD w p x s t->tD aD s p F K L'->yd nH aD t x F K L'->WI 120 (i+1) F K L'->J (40-(i+1)) (A .aT .add .i64 z 1) h':=λh' F K L' aD a h e b4 b5=>by
    rw[bD];exact⟨i+1,F,K,L',aD,ll,rfl,by omega,by omega,a,h,e,b4,b5⟩
   obtain⟨k1,k2,k3,k4,k5,k6,k7,pn⟩:=y;have Fu:-2^63<=k4/\k4<2^63:=lD.s;have bk:-2^63<=k6/\k6<2^63:=lD.n;rw[ak OU];clear f1 bD dL;cbv;rw[f2,ak ab];clear f2;cbv;refine⟨⟨iV,ix⟩,?_⟩;cbv;refine aq.tQ hy dG (o:=0) (m:=1) (by decide) (λcs M _=>?_);obtain⟨pb,pc,M⟩:=M;have M:cs=[.int .i64 k1,.int .i64 k2,.int .i64 k3,.int .i64 k4,.int .i64 k5,.int .i64 k6,.bool k7,.slice pb pn pc]:=M;subst M;cbv;refine jX k1 18 (by decide) (by decide) _ (λzk ik Oq bc cp=>?_);have fg:A .aN .geq zk 15=decide (15<=ik):=by rw[cH A,Oq.eq];exact decide_eq_decide.2 (by omega)
   cbv;rw[fg];by_cases aw:15<=ik
   .rw[ak aw];have:=bX h3 G d L H z3 w3 q3 r3 R.up;clear bX;cbv;refine⟨40-(i+1),A .aT .add .i64 z 1,aU,by constructor<;>cbv,this⟩
   rw[bn aw];have bj:(k1 % ((18:Nat):Int)).toNat<15:=by rw[<-bc];omega
   clear fg;cbv;refine⟨⟨iV,ix⟩,?_⟩;cbv;refine aq.load hy dG (λcs M=>?_);obtain⟨uQ,uP,M⟩:=M;have M:cs=[.int .i64 k1,.int .i64 k2,.int .i64 k3,.int .i64 k4,.int .i64 k5,.int .i64 k6,.bool k7,.slice uQ pn uP]:=M;subst M;cbv;refine z3.Vc (gKl w3 q3 r3 R (by omega) (by omega) (by omega) bj Fu bk (k:=λv h'=>v=.bool true/\∃F K L',Wl h' w p x s t/\tD h' s p F K L'/\yd nH h' t x F K L'/\WI 120 (i+1) F K L') (λh' F K L' a h e b4=>⟨rfl,F,K,L',a,h,e,b4⟩)) (λv aD h4 j z4=>?_);obtain⟨rfl,F,K,L',a,h,e,b4⟩:=j;have:=bX h4 F K L' aD z4 a h e b4;clear bX;cbv;refine⟨40-(i+1),A .aT .add .i64 z 1,aU,by constructor<;>cbv,this⟩
  have hC:C () h3:=by rw[fD];exact⟨i,G,d,L,H,al,z3,w3,q3,r3,R⟩
  have hx:(i<n/\¬i<40)\/¬i<n:=by omega
  clear bD dL hd fD;rcases hx with⟨OU,ab⟩ |OU
  all_goals
   first
    | (
     rw[ak OU]
     cbv;rw[f2,bn ab])
    |rw[bn OU]
   cbv;refine⟨(),⟨?_,?_,?_⟩,hC⟩<;>cbv
end Go.S
