import Derived.Test.YthnbpiejemlbeaaGreatBS
import Derived.Test.YthnbpiejemlbeaaGreatN3w
import Derived.Test.YthnbpiejemlbeaaGreatF4d
set_option linter.all false
set_option maxRecDepth 100000
set_option maxHeartbeats 2000000
namespace Go.S
open Go.Sx Go.Proofs
variable {xs:Array Value}{p r:Bs}{nm:ByteArray}{d:DB}{D:DB×Int}{s:Int}{G:Lg}{R:List Row}{B a:List bS}{cs:List cR}{Q:List nV->Prop}{P c i j m n:Nat}{b:Option Addr}{k:Value->ad->Prop}{h h0:ad}{t' u:bS}{w:eJ}{L:eO}
theorem FB{T:List bS}(h:∀t,T[j]? =some t->t'.S=t.S):(T.set j t').map (·.S)=T.map (·.S):=by
 apply kZq;intro k
 grind
theorem Jo(o:sW n d)(hd:bZ)(s:-2^63<=hd.s/\hd.s<2^63){act:bS->bS×cR×Int}(a:∀t,(act t).1.S=t.S):(eG d hd act).1.ao.map (·.S)=d.ao.map (·.S):=by
 have h:=(oS o hd s).S
 grind [eG,FB,hx]
theorem bJC{c:DB}(o:sW n d)(b:-2^63<=s/\s<2^63)(h:lV s d c):c.ao.map (·.S)=d.ao.map (·.S):=by
 cases h with
 |begin=>
  unfold iP jl;split
  .rfl
  split<;>rfl
 |hold nm x=>exact(oS o ⟨s,nm,x⟩ b).S
 |put nm r e=>exact Jo o _ b (λt=>lY _ _)
 |take nm r a=>
  refine Jo o _ b (λt=>?_)
  grind [fC,lE]
 |rows nm=>
  have:=(oS o ⟨s,nm,false⟩ b).S;unfold qI
  grind
 |save nm=>
  grind [kX]
 |back nm=>
  grind [mu,pI]
 |tz=>
  unfold cA;split
  .exact EN _ _ _
  rfl
theorem YS{T:List bS}(h:a.map (·.S)=T.map (·.S))(h0:∃t∈T,t.S.name=nm):∃t∈a,t.S.name=nm:=by
 obtain⟨t,b,n⟩:=h0;have:t.S∈a.map (·.S):=gg
 grind
structure Dr(m:Nat)(L:eO):Prop where
 nx:0<=L.next/\L.next<=(m:Int)
 op:∀t∈L.oO,Ej t
 o:L.oO.length<=3
 b:L.dq.length<=m
 t:L.Fi.length<=m
theorem Dr.PC(q:Dr m L)(h:m<2^16):xK L:=⟨by have:=q.nx;omega,q.op,by have:=q.o;omega,by have:=q.b;omega,by have:=q.t;omega⟩
theorem Dr.up(q:Dr m L):Dr (m+1) L:=⟨by have:=q.nx;omega,q.op,q.o,by have:=q.b;omega,by have:=q.t;omega⟩
theorem Dr.add(q:Dr m L)(h:Ej ⟨L.next,cs⟩):Dr (m+1) (eZ L cs):=by
 obtain⟨b,c,d,e,f⟩:=q;unfold eZ;split
 .exact⟨by show 0<=L.next+1/\L.next+1<=_;omega,λt a=>(by cases a),kXH _,by show(L.dq++[_]).length<=_;simp;omega,by show(L.Fi++[_]).length<=_;simp;omega⟩
 rename_i n;refine⟨gg,λt a=>?_,?_,gg,gg⟩
 .grind
 grind
theorem Dr.close(q:Dr m L):Dr (m+1) (dp L):=by obtain⟨a,b,c,d,e⟩:=q;exact⟨by show 0<=L.next/\L.next<=_;omega,λt h=>(by cases h),kXH _,by show(L.dq++[_]).length<=_;simp;omega,by show(L.Fi++[_]).length<=_;simp;omega⟩
structure GI(P m:Nat)(G:Lg):Prop where
 lb:LB G.D
 log:∃rs,xJ G P rs/\rs.length<=m+3
 fit:64+G.s<=P*64
theorem GI.up(q:GI P m G):GI P (m+1) G:=by obtain⟨r,I,h⟩:=q.log;exact⟨q.lb,⟨r,I,ip⟩,q.fit⟩
theorem GI.aJJ(q:GI P m G)(a:P<=4096)(b:m<=2^10):G.s<=64*(G.D.now.length-1)/\G.s<=2^29/\G.n<=2^29/\G.D.ws.length<=2^28:=by obtain⟨r,I,h⟩:=q.log;have f:=q.fit;refine⟨by rw[I.ja.len];omega,ip,by rw[I.n];omega,by rw[I.ws];grind⟩
theorem GI.app(q:GI P m G)(c:0<P){l:Bs}(hl:l.length<=65536):((aY G l).1=0\/(aY G l).1=14)/\GI P (m+1) (aY G l).2:=by
 obtain⟨r,I,h⟩:=q.log;have B:=bJz q.lb l;rcases rf I l hl c with⟨g,e,a,d,b⟩ |e
 .rw[e]at B |-;exact⟨.inl rfl,B,⟨_,a,gg⟩,b⟩
 rw[e];exact⟨.inr rfl,q.up⟩
structure WI(P m:Nat)(G:Lg)(d:DB)(L:eO):Prop where
 g:GI P m G
 sj:SJ m d
 ta:∃t∈d.ao,t.S.name=iY
 zd:Dr m L
theorem WI.act{a:DB}(q:WI P m G d L)(b:-2^63<=s/\s<2^63)(h:lV s d a)(j:SJ (m+1) a):WI P (m+1) G a L:=
 ⟨q.g.up,j,YS (bJC q.sj.RX b h) q.ta,q.zd.up⟩
theorem Td(w:TW d.ao){x:cR}(h:vJ d.ao x):yT x/\∀id i,(dC id i x).length<=250:=by
 obtain⟨t,f,n⟩:=h.at_;have z:=(w.ok t f).2.2.1;rw[n]at z;obtain⟨a,v,r,e,-⟩:=h.row;have O:v.s.size<=60:=by
  rcases e with rfl| ⟨s,rfl,c⟩
  .decide
  exact c
 have K:(ju v).length<=63:=by
  rcases e with rfl| ⟨s,rfl,c⟩
  .decide
  show(u8 3::dZ s).length<=63
  grind [dZ,gI,fX,jC]
 have l:=ck a;have u:(gH x.row).length<=100:=by
  rw[r];show(u8 2::((u8 2::cP a)++(ju v++[]))).length<=100
  grind
 refine⟨⟨gg,ip,λy b=>?_⟩,λid i=>?_⟩
 .rw[r]at b;rcases kXB.1 b with rfl|b
  .show dQ.size<=2^40;decide
  grind
 have g:(dZ x.table).length<=14:=by
  grind [dZ,gI,fX,jC]
 have j:=Fh (gH x.row);have k:(df id i x).length=32:=gu _
 grind [dC]
theorem GR(q:SC d)(s:Int):(∀c∈(bQ d s).2.1,vJ d.ao c)/\(bQ d s).2.1.length<=60:=by
 unfold bQ;split
 .simp only;split
  .rename_i w h;exact q.log w (kQR h)
  grind
 grind
theorem yq(q:SC d)(s:Int):(bQ d s).2.1.length<=255/\(∀c∈(bQ d s).2.1,yT c)/\∀id L,(iU ⟨id,(bQ d s).2.1⟩ L).length<=65536:=by
 obtain⟨h,a⟩:=GR q s;refine⟨ip,λc e=>(Td q.tw (h c e)).1,λid L=>?_⟩;generalize (bQ d s).2.1=cs at *;have f:=Ik id cs;have g:=Fj L;have i:(jd id cs.length).length=10:=by unfold jd;simp[ck]
 have b:((cs.mapIdx (dC id)).flatten).length<=(cs.mapIdx (dC id)).length*250:=Jg (λx hx=>by
  obtain⟨j,k,rfl⟩:=List.mem_mapIdx.1 hx;exact(Td q.tw (h _ (List.getElem_mem _))).2 id j)
 rw[List.length_mapIdx]at b;have E:cs.length*250<=60*250:=kZg _ a;show(((jd id cs.length++(cs.mapIdx (dC id)).flatten)++fa id cs)++kU L).length<=65536
 grind
theorem WI.Dj(q:WI P m G d L)(g:0<P)(a:-2^63<=s/\s<2^63){W:Int×Int×Lg×DB×eO}(i:lH G d L s=W):WI P (m+1) W.2.2.1 W.2.2.2.1 W.2.2.2.2:=by
 obtain⟨j,e,f⟩:=yq q.sj.sc s;have c:=(Uk q.sj a).le (kXg m);have r:=(Pd q.sj a).le (kXg m);have M:∃t∈(bQ d s).1.ao,t.S.name=iY:=by unfold bQ;split<;>exact q.ta
 have h:∃t∈(cA d s).1.ao,t.S.name=iY:=YS (bJC q.sj.RX a .tz) q.ta;have b:=q.g.app g (l:=iU ⟨L.next,(bQ d s).2.1⟩ (eZ L (bQ d s).2.1)) (f _ _);subst i;unfold lH;split
 .exact⟨q.g.up,q.sj.le (kXg m),q.ta,q.zd.up⟩
 split
 .exact⟨q.g.up,c,M,q.zd.up⟩
 split
 .exact⟨b.2,c,M,q.zd.add ⟨gg,e⟩⟩
 exact⟨b.2,r,h,q.zd.up⟩
theorem WI.eQp(q:WI P m G d L)(b:0<P){W:(Int×Bs×Int)×Lg×eO}(c:vE G L=W):WI P (m+1) W.2.1 d W.2.2:=by
 have a:=q.g.app b (l:=gq (cV (dp L).dq).1 (cV (dp L).dq).2.1) (by
  grind [gq,jz,ck])
 have h:=q.sj.le (kXg m);subst c;unfold vE;split
 .exact⟨q.g.up,h,q.ta,q.zd.up⟩
 split
 .exact⟨a.2,h,q.ta,q.zd.close⟩
 exact⟨a.2,h,q.ta,q.zd.up⟩
def KX:ByteArray:=⟨#[111,114]⟩
def Ak(nm:ByteArray)(k:Nat):rM:=⟨nm,[⟨⟨#[122]⟩,((1+k:Nat):Int),false⟩],0,false⟩
theorem Pt{k:Nat}(h:k<3):ey (Ak KX k)≠0:=by
 have h:k=0\/k=1\/k=2:=ip
 rcases h with rfl|rfl|rfl<;>decide
theorem bXV(h:nm.size<=4)(k:Nat):(eQ (Ak nm k)).length<=65536:=by
 have a:(pK nm).length<=6:=by
  grind [pK,gI,fX,jC]
 have c:(vu (Ak nm k)).length<=40:=by
  show(pK nm++([u8 1]++(((lp ⟨⟨#[122]⟩,((1+k:Nat):Int),false⟩)++[])++(cP 0++[u8 0])))).length<=40;have b:(lp ⟨⟨#[122]⟩,((1+k:Nat):Int),false⟩).length=5:=rfl
  grind [ck]
 have d:=Fh (vu (Ak nm k));show([u8 1]++dZ (strOf (vu (Ak nm k)))).length<=65536
 grind
theorem WI.go(q:WI P m G d L)(h:0<P){l:Bs}(hl:l.length<=65536)(j:SJ m D.1)(b:∃t∈D.1.ao,t.S.name=iY):WI P (m+1) (Hv G d D l).2.1 (Hv G d D l).2.2 L:=by
 have a:=q.g.app h (l:=l) hl;unfold Hv;split
 .exact⟨q.g.up,q.sj.le (kXg m),q.ta,q.zd.up⟩
 refine⟨a.2,?_,?_,q.zd.up⟩
 .show SJ (m+1) (if(aY G l).1=0 then D.1 else d);split
  .exact j.le (kXg m)
  exact q.sj.le (kXg m)
 show ∃t∈(if(aY G l).1=0 then D.1 else d).ao,t.S.name=iY;split
 .exact b
 exact q.ta
theorem WI.create(q:WI P m G d L)(b:0<P){k:Nat}(c:k<3)(n:nm=tG\/nm=iY\/nm=KX):WI P (m+1) (fQ G d (Ak nm k)).2.1 (fQ G d (Ak nm k)).2.2 L:=by
 have V:=oW q.sj.sc.tw.gi (Ak nm k);have z:nm.size<=4:=by rcases n with rfl|rfl|rfl<;>decide
 have j:SJ m (bP d (Ak nm k)).1:=by
  rw[V];rcases n with rfl|rfl|rfl
  .exact Uj q.sj (λh=>absurd rfl h) (by show tG.size<=12;decide)
  .have:dx d (Ak iY k)=(d,(dx d (Ak iY k)).2):=by
    unfold dx;split
    .rfl
    rw[if_pos (by
     obtain⟨t,a,n⟩:=q.ta;exact wM.2 ⟨t,a,kS n⟩)]
   rw[this];exact q.sj
  have:dx d (Ak KX k)=(d,(dx d (Ak KX k)).2):=by
   grind [dx,Pt]
  rw[this];exact q.sj
 refine q.go b (bXV z k) j ?_;rw[V];unfold dx;repeat' split
 all_goals first|exact q.ta|skip
 obtain⟨t,a,n⟩:=q.ta;rw[<-GD (dh d.ao (Ak nm k).name) d.ao]at a;refine⟨t,?_,n⟩;show t∈d.ao.take _++[_]++d.ao.drop _
 grind
theorem WI.drop(q:WI P m G d L)(a:0<P)(z:nm.size<=4)(n:nm≠iY):WI P (m+1) (mj G d nm).2.1 (mj G d nm).2.2 L:=by
 refine q.go a (l:=eX nm) (by
  grind [eX,pK,gI,fX,jC]) (aZX q.sj nm) ?_
 unfold dY;split
 .rename_i k;split
  .exact q.ta
  obtain⟨t,g,c⟩:=q.ta;obtain⟨j,f⟩:=kXT g;obtain⟨a1,a2⟩:=qE q.sj.sc.tw.gi f;have b:j≠dE (aU d.ao nm):=λe=>by
   grind [iC,aU,dy,mO]
  refine⟨t,?_,c⟩;show t∈d.ao.eraseIdx _;rcases kJx b with h|h
  .exact kQR (i:=j) gg
  exact kQR (i:=j-1) gg
 exact q.ta
set_option maxHeartbeats 16000000
def fQJ:ByteArray:=⟨#[116,99]⟩
def fXk:ByteArray:=⟨#[110,111,110,101]⟩
theorem KH{n e:Int}{s:Bs}{c:Lg}{a:eO}(h:vE G L=((n,s,e),c,a)):s.length=32:=by
 grind [vE,jz]
set_option maxHeartbeats 8000000
theorem aZH:Tryz.prog.underlying 113=some (.struct (Tryz.prog.fieldsOf 113)):=by kernel_rfl
theorem bQv:Tryz.prog.eqGuardType Tryz.prog.depth 113=false:=by kernel_rfl
theorem aKH:Tryz.prog.stoodInHeld 113=false:=by kernel_rfl
theorem bQf:((Tryz.prog.fieldsOf 113).toList.map λf=>(f.name,f.type,f.offset))=[("N",3,0),("Prev",100,1),("Root",100,33),("Count",3,65)]:=by kernel_rfl
theorem SP{P:Program}{w:World}{d:Nat}{ys:Array Value}:∀ {fs:List Field} {L:List (String×TypeId×Nat)},(fs.map λf=>(f.name,f.type,f.offset))=L->(∀f∈L,f.1≠ "_" /\∃a b,(part f.2.1 xs f.2.2).run P w=.ok a w/\(part f.2.1 ys f.2.2).run P w=.ok b w/\(Op.equalIn d f.2.1 a b).run P w=.ok true w)->(Op.eqFields d xs ys fs).run P w=.ok true w
 | [],L,_,_=>by rw[Op.eqFields.eq_1];rfl
 |f::fs,L,j,h=>by
  subst j;obtain⟨n,a,b,c,e,i⟩:=h (f.name,f.type,f.offset) (kXi ..);have l:=SP (fs:=fs) rfl (λg k=>h g (kQH _ k));rw[Op.eqFields.eq_2,if_pos n];have c:(part f.type xs f.offset).run P w=.ok a w:=c;have e:(part f.type ys f.offset).run P w=.ok b w:=e;have i:(Op.equalIn d f.type a b).run P w=.ok true w:=i;simp only[kKm,c,e,i,kXb,kXl,kXk,if_false];exact l
theorem bQo(w:World){d:Nat}{n c:Int}(g:p.length=32)(j:r.length=32)(x0:xs[0]? =some (.zI n))(x:xs.extract 1 33=List.toArray (aT p))(k:xs.extract 33 65=List.toArray (aT r))(m:xs[65]? =some (.zI c)):
 (Op.equalIn (d+3) 113 (.agg xs) (.agg xs)).run Tryz.prog w=.ok true w:=by
 have i:∀o v,xs[o]? =some v->(part 3 xs o).run Tryz.prog w=.ok v w:=λo v h=>by
  simp[part,isAgg,run_underlying AA,h]
 have a:∀o l,xs.extract o (o+32)=List.toArray (aT l)->(part 100 xs o).run Tryz.prog w=.ok (.agg (aT l).toArray) w:=λo l h=>by
  unfold part isAgg;simp only[kKm,run_underlying qC,kXb,kXa,if_true,Is];rw[h]
 have z:=i 0 _ x0;have A:=a 1 p x;have B:=a 33 r k;have C:=i 65 _ m;have e1:=Gg (P:=Tryz.prog) (w:=w) (d:=d+1) (t:=3) (n:=n) AA;have u:=Gg (P:=Tryz.prog) (w:=w) (d:=d+1) (t:=3) (n:=c) AA;have q:=Ad (P:=Tryz.prog) (w:=w) (d:=d) (t:=100) (e:=5) qC Fg AK g;have s:=Ad (P:=Tryz.prog) (w:=w) (d:=d) (t:=100) (e:=5) qC Fg AK j;rw[run_equalIn_agg w (d+2) _ _ _ aZH aKH];have b:=bQf;clear i a;generalize (Tryz.prog.fieldsOf 113).toList=fs at *;generalize Tryz.prog=P at *;refine SP b (λf y=>?_)
 grind
theorem aJK{x y:Operand}{n c:Int}{a b:Nat->Int}(h:hl a=aT p)(e:hl b=aT r)(g:p.length=32)(i:r.length=32){k:Value->Prop}(f:k (.bool false)):
 uS (λ_=>Tryz.prog) (λ_=>do
  eqGuard .neq 113 x y (.agg (Aw n a b c).toArray) (.agg (Aw n a b c).toArray)
  Go.binOp .neq 113 (.agg (Aw n a b c).toArray) (.agg (Aw n a b c).toArray)) k:=by
 refine⟨_,λw=>?_,f⟩;have x0:(Aw n a b c).toArray[0]? =some (.zI n):=rfl;have m:(Aw n a b c).toArray[65]? =some (.zI c):=rfl;have j:(Aw n a b c).toArray.extract 1 33=List.toArray (aT p):=by rw[List.extract_toArray,<-h];exact congrArg List.toArray (show((Aw n a b c).drop 1).take 32=hl a from rfl)
 have l:(Aw n a b c).toArray.extract 33 65=List.toArray (aT r):=by rw[List.extract_toArray,<-e];exact congrArg List.toArray (show((Aw n a b c).drop 33).take 32=hl b from rfl)
 generalize List.toArray (Aw n a b c)=xs at *;rw[kKm,run_eqGuard_agg w _ _ _ _ _ _ bQv,kXb];rw[run_neq_struct,show(10000:Nat)=9997+3 from rfl];generalize 9997=d;rw[bQo w g i x0 j l m];rfl
theorem Jq{cs:List Value}{x:nV}(q:ek.R h cs x):∃g r,hl g=aT x.prev/\hl r=aT x.root/\x.prev.length=32/\x.root.length=32/\cs=Aw x.n g r x.count:=by
 obtain⟨a,p,b⟩:=q
 grind [tJ,nF]
theorem aXb{cs cs':List Value}{x:nV}(q:ek.R h cs x)(a:ek.R h cs' x):cs'=cs:=a.1.trans q.1.symm
theorem ER{l:Int}{o a:Option Addr}{f r d:Nat}{Z:List mQ}{bs:List nV}{ts:List (List mQ)}(q:vr h b f c o n r a j d ⟨l,Z,bs,ts⟩)(hb:bs.length<=2^20)
 (S:∀h' L Y U,Le h h'->yR h' b f c L Y U a j d ⟨l,Z,bs,ts⟩->k (.agg #[.zI l,.slice b f c,.slice L Y U,.slice a j d]) h'):
 Ct 29 [.agg #[.zI l,.slice b f c,.slice o n r,.slice a j d]] h k:=by
 have C:Sl 224 ek h (.slice o n r) bs:=q.dq;have T:=C.len;have q1:=q.oO;have q3:=q.Fi;obtain⟨J,H⟩:∃J:Nat->((Option Addr×Nat×Nat)×Int)->ad->Prop,∀w g h',J w g h'=(∃i,bg g.2 i/\w=n-i/\i<=n/\Le h h'/\bA 113 ek h h' (.slice g.1.1 g.1.2.1 g.1.2.2) (bs.take i)):=⟨_,λ_ _ _=>rfl⟩;have P:J n ((none,0,0),0) h:=by rw[H];exact⟨0,⟨rfl⟩,rfl,ip,Le.refl _,bA.nil⟩
 refine cB iXc Tryz.func29 λA hA=>?_;cbv;refine ba.gz (G:=(Option Addr×Nat×Nat)×Int) (λg=>[(4,.v (.zI g.2))]) (λg=>[(1,[.zI l,.slice b f c,.slice o n r,.slice a j d]),(2,[.zI 0,.zN,.zN,.zN]),(3,[.zI l,.slice b f c,.slice g.1.1 g.1.2.1 g.1.2.2,.slice a j d])]) (λw g h'=>J w g h') n ((none,0,0),0) P ?_
 intro w g B R;rw[H]at R;cbv;obtain⟨⟨M,y,N⟩,z⟩:=g;obtain⟨i,e,hw,hi,p,m⟩:=R;have e:bg z i:=e;have m:bA 113 ek h B (.slice M y N) (bs.take i):=m;have nQ:=m.sl.len;rw[kJI]at nQ;have K:A .aQ .lss z (A .nat n)=decide (i<n):=by rw[aV A,e.eq,hA.nat];grind
 rw[K];by_cases t:i<n
 .rw[kS t];obtain⟨x,hx⟩:=cK bs i;have ix:=e.ix t;have iK:o.isSome=true:=C.bu;have aZ:n-(i+1)<w:=ip
  have fV:=mI hx;have F:∀u m' c' h',Le h h'->bA 113 ek h h' (.slice u m' c') (bs.take i++[x])->J (n-(i+1)) ((u,m',c'),A .aX .add .i64 z 1) h':=λu m' c' h' l' q'=>by
   rw[H];exact⟨i+1,e.succ (A:=A),rfl,t,l',gg⟩
  have oU:y+1<=2^39:=ip
  clear K H P fV;generalize bs.take i=Lc at *;obtain⟨xn,xp,xr,xc⟩:=x;cbv;refine⟨⟨iK,ix⟩,?_⟩;cbv;refine(C.mono (p.t _)).load hx e.eq (λcs ar=>?_);obtain⟨O,Q,V,I,hp,hr,rfl⟩:=Jq ar;have V:hl O=aT xp:=V;have I:hl Q=aT xr:=I;cbv;intro n4 h4 Gq v;have W:Le B h4:=zqs v Gq
  have q4:=bh (s:=ek) (cs:=Aw xn O Q xc) (x:=⟨xn,xp,xr,xc⟩) (zqt v) ⟨(nF ..).trans (by rw[V,I]),hp,hr⟩;clear v;cbv;refine(m.mono (W.t _)).append q4 dl rfl dl oU (p.trans W) (λX D E h5 KC l5 t5 k5 q5=>?_);have iL:=F D X E h5 l5 q5;clear F k5;cbv;refine zqn _ ((D,X,E),A .aX .add .i64 z 1) aZ iL
 rw[kQW t];rw[kXe ip]at m;have:=S B M y N p ⟨q1.mono (p.t _),m.sl,q3.mono (p.t _)⟩;clear H P S;cbv;exact this
theorem Ju{d:Option Addr}{e:Nat}{xs:List mQ}(q:Sl 172 eD h (.slice b n c) xs)(p:Sl 172 eD h (.slice d m e) xs)(hk:k (.bool true) h):
 Ct 87 [.slice b n c,.slice d m e] h k:=by
 obtain⟨A,D⟩:=Ar.ex;have hn:=q.len;have hm:=p.len;have kE:=q.bound.1;have OQ:A .not true=false:=by rw[D.not];rfl
 have K:∀u v:Nat,u=v->A .aQ .neq (A .nat u) (A .nat v)=false:=λu v e=>by rw[e,aJ A];simp
 have F:∀z:Int,A .aQ .neq z z=false:=λz=>by rw[aJ A];simp
 refine kh iQi A Tryz.func87 ?_;cbv;rw[K n m ip];cbv;refine ba.gz (G:=Int) (λz=>[(5,.v (.zI z))]) (λ_=>[]) (λw z h'=>∃i,bg z i/\w=n-i/\i<=n/\h'=h) n 0 ⟨0,⟨rfl⟩,rfl,ip,rfl⟩ ?_
 intro w z h' E;cbv;obtain⟨i,s,hw,hi,rfl⟩:=E;have f1:A .aQ .lss z (A .nat n)=decide (i<n):=by rw[aV A,s.eq,D.nat];grind
 rw[f1];by_cases J:i<n
 .rw[kS J];obtain⟨x,hx⟩:=cK xs i;have ix:=s.ix J;have Q:=s.ix (len:=m) ip;have s1:b.isSome=true:=q.bu;have s2:d.isSome=true:=p.bu;have aZ:n-(i+1)<w:=ip
  have ly:=s.succ (A:=A);have I:=s.eq;obtain⟨T,H⟩:=x;cbv;refine⟨⟨s1,ix⟩,?_⟩;cbv;refine q.cI hx I (o:=0) (m:=1) dl (λcs a=>?_);obtain⟨_,_,_,a,-⟩:=a;have a:cs=[.zI T,_]:=a;subst a;cbv;refine⟨⟨s2,Q⟩,?_⟩;cbv;refine p.cI hx I (o:=0) (m:=1) dl (λcs a=>?_);obtain⟨_,_,_,a,-⟩:=a;have a:cs=[.zI T,_]:=a;subst a;cbv;rw[F];cbv;refine⟨⟨s1,ix⟩,?_⟩;cbv;refine q.cI hx I (o:=1) (m:=1) dl (λcs a=>?_);obtain⟨ub,M,uc,a,N⟩:=a;have a:cs=[.zI T,.slice ub M uc]:=a;have N:Sl 161 bD h' (.slice ub M uc) H:=N;have ul:=N.len;subst a;cbv;refine⟨⟨s2,Q⟩,?_⟩;cbv;refine p.cI hx I (o:=1) (m:=1) dl (λcs a=>?_);obtain⟨vb,O,vc,a,P⟩:=a;have a:cs=[.zI T,.slice vb O vc]:=a;have P:Sl 161 bD h' (.slice vb O vc) H:=P;have vl:=P.len;subst a;cbv;rw[K M O ip];cbv;refine ba.gz (G:=Int) (λy=>[(6,.v (.zI y))]) (λ_=>[]) (λw y l=>∃j,bg y j/\w=H.length-j/\j<=H.length/\l=h') H.length 0 ⟨0,⟨rfl⟩,rfl,ip,rfl⟩ ?_
  intro w2 y l E;cbv;obtain⟨j,r,IM,hj,rfl⟩:=E;refine⟨⟨s1,ix⟩,?_⟩;cbv;refine q.cI hx I (o:=1) (m:=1) dl (λcs a=>?_);obtain⟨R,B,S,a,t⟩:=a;have a:cs=[.zI T,.slice R B S]:=a;have t:Sl 161 bD l (.slice R B S) H:=t;have al:=t.len;subst a;cbv;have Y:A .aQ .lss y (A .nat B)=decide (j<H.length):=by rw[aV A,r.eq,D.nat];grind
  rw[Y];by_cases L:j<H.length
  .rw[kS L];obtain⟨g,hg⟩:=ay (xs:=H) (i:=j) L;have uL:H.length-(j+1)<w2:=ip
   have X:=r.succ (A:=A) (by have:=t.bound.1;omega);have Z:=r.eq;obtain⟨C,go,gr⟩:=g;clear Y;cbv;refine⟨⟨s1,ix⟩,?_⟩;cbv;refine q.cI hx I (o:=1) (m:=1) dl (λcs a=>?_);obtain⟨U,W,V,a,eq⟩:=a;have a:cs=[.zI T,.slice U W V]:=a;have eq:Sl 161 bD l (.slice U W V) H:=eq;have el:=eq.len;subst a;cbv;refine⟨⟨eq.bu,r.ix ip⟩,?_⟩;cbv;refine eq.load hg Z (λcs a=>?_);obtain⟨r1,rq,ry,a,FL⟩:=a;have a:cs=[.string C,.zI go,.slice r1 rq ry]:=a;subst a;cbv;refine⟨⟨s2,Q⟩,?_⟩;cbv;refine p.cI hx I (o:=1) (m:=1) dl (λcs a=>?_);obtain⟨fb,fn,fc,a,f⟩:=a;have a:cs=[.zI T,.slice fb fn fc]:=a;have f:Sl 161 bD l (.slice fb fn fc) H:=f;have fl:=f.len;subst a;cbv;refine⟨⟨f.bu,r.ix ip⟩,?_⟩;cbv;refine f.load hg Z (λcs a=>?_);obtain⟨r2,rp,ru,a,Cw⟩:=a;have a:cs=[.string C,.zI go,.slice r2 rp ru]:=a;subst a;cbv;refine Cs (x:=⟨C,go,gr⟩) FL Cw ?_;cbv;rw[OQ];cbv;refine zqn _ (A .aX .add .i64 y 1) uL ⟨j+1,X,rfl,ip,rfl⟩
  rw[kQW L];cbv;refine zqn _ (A .aX .add .i64 z 1) aZ ⟨i+1,ly,rfl,ip,rfl⟩
 rw[kQW J];cbv;exact hk
theorem aXv{y g j E l o:Option Addr}{M B C a D J e1 F f H:Nat}(q:yR h y M B g n C j a D L)(p:yR h E J e1 l m F o f H L)(hk:k (.bool true) h):
 Ct 31 [.agg #[.zI L.next,.slice y M B,.slice g n C,.slice j a D],.agg #[.zI L.next,.slice E J e1,.slice l m F,.slice o f H]] h k:=by
 obtain⟨A,T⟩:=Ar.ex;obtain⟨Y,s,t⟩:=q;obtain⟨X,N,O⟩:=p;obtain⟨P,op,bs,ts⟩:=L;have Y:Sl 172 eD h (.slice y M B) op:=Y;have X:Sl 172 eD h (.slice E J e1) op:=X;have s:Sl 113 ek h (.slice g n C) bs:=s;have N:Sl 113 ek h (.slice l m F) bs:=N;have t:Sl 47 gN h (.slice j a D) ts:=t;have O:Sl 47 gN h (.slice o f H) ts:=O;have l2:=s.len;have ab:=N.len;have l3:=t.len;have Wn:=O.len;have ak:=s.bound.1;have ag:=t.bound.1;have OQ:A .not true=false:=by rw[T.not];rfl
 have K:∀u v:Nat,u=v->A .aQ .neq (A .nat u) (A .nat v)=false:=λu v e=>by rw[e,aJ A];simp
 have V:∀z:Int,A .aQ .neq z z=false:=λz=>by rw[aJ A];simp
 refine kh iXa A Tryz.func31 ?_;cbv;rw[V];cbv;refine Ju Y X ?_;cbv;rw[OQ];cbv;rw[K n m ip];cbv;rw[K a f ip];cbv;refine ba.gz (G:=Int) (λz=>[(5,.v (.zI z))]) (λ_=>[(2,[.zI P,.slice y M B,.slice g n C,.slice j a D]),(3,[.zI P,.slice E J e1,.slice l m F,.slice o f H])]) (λw z h'=>∃i,bg z i/\w=n-i/\i<=n/\h'=h) n 0 ⟨0,⟨rfl⟩,rfl,ip,rfl⟩ ?_
 intro w z h' U;cbv;obtain⟨i,b,hw,hi,rfl⟩:=U;have S:A .aQ .lss z (A .nat n)=decide (i<n):=by rw[aV A,b.eq,T.nat];grind
 rw[S];by_cases d:i<n
 .rw[kS d];obtain⟨x,hx⟩:=cK bs i;have ix:=b.ix d;have c:=b.ix (len:=m) ip;have s1:g.isSome=true:=s.bu;have s2:l.isSome=true:=N.bu;have Z:n-(i+1)<w:=ip
  have W:=b.succ (A:=A);have I:=b.eq;cbv;refine⟨⟨s1,ix⟩,?_⟩;cbv;refine s.load hx I (λcs r=>?_);obtain⟨gp,gr,IV,IU,hp,hr,rfl⟩:=Jq r;generalize x.n=xn at *;generalize x.count=xc at *;cbv;refine⟨⟨s2,c⟩,?_⟩;cbv;refine N.load hx I (λcs R=>?_);obtain rfl:=aXb r R;cbv;refine aJK IV IU hp hr ?_;cbv;refine zqn _ (A .aX .add .i64 z 1) Z ⟨i+1,W,rfl,ip,rfl⟩
 rw[kQW d];cbv;refine ba.gz (G:=Int) (λz=>[(6,.v (.zI z))]) (λ_=>[(2,[.zI P,.slice y M B,.slice g n C,.slice j a D]),(3,[.zI P,.slice E J e1,.slice l m F,.slice o f H])]) (λw z h2=>∃i,bg z i/\w=a-i/\i<=a/\h2=h') a 0 ⟨0,⟨rfl⟩,rfl,ip,rfl⟩ ?_
 intro w z h2 U;cbv;obtain⟨i,b,hw,hi,rfl⟩:=U;have S:A .aQ .lss z (A .nat a)=decide (i<a):=by rw[aV A,b.eq,T.nat];grind
 rw[S];by_cases d:i<a
 .rw[kS d];obtain⟨x,hx⟩:=cK ts i;have ix:=b.ix d;have c:=b.ix (len:=f) ip;have s1:j.isSome=true:=t.bu;have s2:o.isSome=true:=O.bu;have Z:a-(i+1)<w:=ip
  have W:=b.succ (A:=A);have I:=b.eq;cbv;refine⟨⟨s1,ix⟩,?_⟩;cbv;refine t.load hx I (λcs r=>?_);obtain⟨v,rfl,qv⟩:=r;obtain⟨vb,Q,vc,rfl⟩:∃vb Q vc,v=.slice vb Q vc:=by
   obtain⟨b',cap,e1,-⟩:=qv.out
   grind
  cbv;refine⟨⟨s2,c⟩,?_⟩;cbv;refine O.load hx I (λcs r=>?_);obtain⟨v,rfl,pv⟩:=r;obtain⟨ub,um,uc,rfl⟩:∃vb Q vc,v=.slice vb Q vc:=by
   obtain⟨b',cap,e1,-⟩:=pv.out
   grind
  cbv;refine Ju qv pv ?_;cbv;rw[OQ];cbv;refine zqn _ (A .aX .add .i64 z 1) Z ⟨i+1,W,rfl,ip,rfl⟩
 rw[kQW d];cbv;exact hk
theorem Fz.Ei{A:ad}{f:FuncId}{args:List Value}{P:Value->ad->Prop}(q:Fz h0 A h)(c:Ct f args A P)(e:∀v y h',P v y->Fz h0 y h'->k v h'):Ct f args h k:=
 Hl.cJc q.le c (λv y h' hR l fr=>e v y h' hR ⟨l,λb o d=>by
  have a:=q.yD b o d;exact fr b o a.2 a.1⟩)
theorem fQt{xs:List DR}(q:Hz AM h (.slice b n c) xs)(l:∀g:Bool,(g=true->n<=70)->k (.bool g) h):
 Ct 20 [.slice b n c] h k:=by
 have p:=q.len;have O:=q.bound;refine cB iXg Tryz.func20 λA j=>?_;cbv;refine ba.gz (G:=Int) (λz=>[(3,.v (.zI z))]) (λ_=>[]) (λw z h'=>∃i,bg z i/\w=n-i/\i<=n/\h'=h) n 0 ⟨0,⟨rfl⟩,rfl,ip,rfl⟩ ?_
 intro w z h' t;cbv;obtain⟨i,f,N,M,rfl⟩:=t;have r:A .aQ .lss z (A .nat n)=decide (i<n):=by rw[aV A,f.eq,j.nat];exact decide_eq_decide.2 (by show(i:Int)<(n:Int)↔_;omega)
 rw[r];by_cases d:i<n
 .rw[kS d];obtain⟨x,hx⟩:=cK xs i;have ix:=f.ix d;have s1:b.isSome=true:=q.bu;have Z:n-(i+1)<w:=ip
  have H:=f.succ (A:=A);have I:=f.eq;obtain⟨u,y,B,C,D,E,F,L⟩:=x;have v:=l false (λe=>by cases e);cbv;refine⟨⟨s1,ix⟩,?_⟩;cbv;refine q.sJ hx I (o:=7) (m:=1) dl (λcs a _=>?_);obtain⟨J,K,a⟩:=a;have a:cs=[.zI u,.zI y,.zI B,.zI C,.zI D,.zI E,.bool F,.slice J L K]:=a;subst a;cbv;refine bm (λd=>?_) (λd=>?_)
  .cbv;exact v
  cbv;refine zqn _ (A .aX .add .i64 z 1) Z ⟨i+1,H,rfl,ip,rfl⟩
 rw[kQW d];have s:A .aQ .leq (A .nat n) 70=decide (n<=70):=by rw[Sg A,j.nat];exact decide_eq_decide.2 (by show(n:Int)<=70↔_;omega)
 have:=l (decide (n<=70)) (λe=>kZr e);cbv;rw[s];exact this
theorem WI.up(q:WI P m G d L):WI P (m+1) G d L:=⟨q.g.up,q.sj.le (kXg m),q.ta,q.zd.up⟩
theorem Ir:SJ 0 ei:=by
 have g:dy (gG 0).S.name (gG 1).S.name=-1:=by kernel_rfl
 have J:dy (gG 0).S.name (gG 2).S.name=-1:=by kernel_rfl
 have Q:dy (gG 1).S.name (gG 2).S.name=-1:=by kernel_rfl
 have D:∀t,(gG t).S.cols=bI/\(gG t).S.key=0/\SO (gG t).rows:=λt=>⟨rfl,rfl,SO.nil⟩;have m:(gG 0).S.name.size=2:=by kernel_rfl
 have G:(gG 1).S.name.size=2:=by kernel_rfl
 have f:(gG 2).S.name.size=2:=by kernel_rfl
 have T:TW ei.ao:=by
  refine⟨?_,λt a=>?_,by show(3:Nat)<=8;omega⟩
  .show [gG 0,gG 1,gG 2].Pairwise _;simp only[kXu,kXB,kQK,or_false,forall_eq_or_imp,forall_eq,List.Pairwise.nil,and_true,g,J,Q,false_imp_iff,implies_true];decide
  have a:t∈[gG 0,gG 1,gG 2]:=a;simp only[kXB,kQK,or_false]at a;rcases a with rfl|rfl|rfl
  .exact⟨λ_=>⟨rfl,rfl⟩,SO.nil,ip,λ_=>rfl⟩
  .exact⟨λ_=>⟨rfl,rfl⟩,SO.nil,ip,λ_=>rfl⟩
  exact⟨λ_=>⟨rfl,rfl⟩,SO.nil,ip,λ_=>rfl⟩
 refine⟨⟨T,List.Pairwise.nil,λw h=>(by cases h),λw h=>(by cases h),λw h=>(by cases h),λi j x y b=>?_,λx hx=>(by cases hx),λx hx=>(by cases hx),λw h=>(by cases h)⟩,λw h=>(by cases h),qA _,qA _⟩;have b:([]:List bZ)[i]? =some x:=b;simp at b
theorem LN(q:BW G P 3)(a:3<=P):WI P 0 G ei lz:=by obtain⟨r,d,sl,I,-,-,-,hl⟩:=q.out;have s:=q.s;exact⟨⟨q.lb,⟨r,I,ip⟩,ip⟩,Ir,⟨gG 0,kXi ..,rfl⟩,⟨⟨tB _,tB _⟩,λt h=>(by cases h),kXH _,kXH _,kXH _⟩⟩
def vM(nm:ByteArray)(c:cR):Bool:=decide (c.table=nm)
def mq(ws:List eJ)(nm:ByteArray):List cR:=ws.flatMap λw=>w.log.filter (vM nm)
def Dt(t:bS)(c:cR):bS:=if c.op=2 then(bL t c.row).1 else(bE t (sY c.row 0)).1
def cKb(b:bS):List cR->bS->Prop
 | [],t=>t=b
 |c::r,t=>∃t0,cKb b r t0/\QZ t0 c t/\Dt t c=t0
def Pl(b:bS)(cs:List cR)(t:bS):Prop:=cKb b cs.reverse t
theorem RQ{b t:bS}{c:cR}:Pl b (cs++[c]) t↔∃a,Pl b cs a/\QZ a c t/\Dt t c=a:=by unfold Pl;rw[List.reverse_append];rfl
theorem cKb.TY{b:bS}:∀(l:List cR) {t:bS},cKb b (l++cs) t->cKb b cs (l.foldl Dt t)
 | [],_,h=>h
 |c::l,t,⟨t0,a,_,d⟩=>by rw[kJF,d];exact cKb.TY l a
theorem aJB{b t:bS}{l:List cR}(h:Pl b (cs++l) t):Pl b cs (l.foldr (λx t=>Dt t x) t):=by unfold Pl at h;rw[List.reverse_append]at h;have:=cKb.TY _ h;rwa[List.foldl_reverse]at this
theorem Ka{T:List bS}(h:T.Pairwise (λa b=>dy a.S.name b.S.name<0)){t:bS}(c:T[i]? =some t)(f:T[j]? =some u)(e:t.S.name=u.S.name):i=j:=by
 have d:=(qE h c).1
 grind [qE]
theorem bXy{T:List bS}(e:a.map (·.S)=T.map (·.S)){t:bS}(h:T[j]? =some t)(b:a[j]? =some u):u.S=t.S:=by
 have:=congrArg (·[j]?) e
 grind
theorem VU{T:List bS}(e:a.map (·.S)=T.map (·.S)){t:bS}(h:T[j]? =some t):∃u,a[j]? =some u:=by
 refine ay ?_;have:=congrArg List.length e
 grind
theorem LA{T:List bS}(h:TW T){t:bS}(d:T[j]? =some t):∀ {l:List cR},(∀x∈l,vJ T x)->(ea T l)[j]? =some ((l.filter (vM t.S.name)).foldr (λx t=>Dt t x) t)
 | [],_=>d
 |x::r,hl=>by
  have f:∀y∈r,vJ T y:=λy k=>hl y (kQH _ k);have b:=LA h d f;have c:=vT h f;have hx:vJ (ea T r) x:=(hl x io).map (pI T r);obtain⟨v,g,n⟩:=hx.at_;obtain⟨i,a⟩:=kXT g;obtain⟨e,-⟩:=Ff c hx a n;have S:=bXy (pI T r) d b;show(gz (ea T r) x)[j]? =_;rw[e];by_cases W:i=j
  .subst W;rw[b]at a;have a:=Option.some.inj a;have p:vM t.S.name x=true:=kS (by rw[<-n,<-a,S]);rw[kZw p,List.foldr_cons,a,kXU (HH.1 b).1];rfl
  have p:¬vM t.S.name x=true:=λp=>W (Ka c.gi a b (by rw[n,S];exact kZr p))
  grind
theorem alone(q:SC d)(hx:∃x∈d.holds,x.s=w.s/\x.table=nm/\x.x=true){v:eJ}(b:v∈d.ai)(V:v.s≠w.s):v.log.filter (vM nm)=[]:=by
 refine List.filter_eq_nil_iff.2 (λc a h=>?_);obtain⟨y,e,j,k,l⟩:=q.lg v b c a;obtain⟨x,hx,g,f,i⟩:=hx;have K:c.table=nm:=kZr h;have:=q.hc x hx y e
 grind [eE]
theorem NM:∀ {ws:List eJ},(∀v∈ws,v.log.filter (vM nm)=[])->mq ws nm=[]:=λ{ws} h=>by
 unfold mq;exact List.flatMap_eq_nil_iff.2 h
theorem yv:∀ {ws:List eJ} {i:Nat} {w:eJ},ws[i]? =some w->(∀k v,ws[k]? =some v->k≠i->v.log.filter (vM nm)=[])->mq ws nm=w.log.filter (vM nm)
 | [],_,_,h,_=>by cases h
 |a::r,0,w,h,b=>by
  have h:a=w:=Option.some.inj h;subst h;have:mq r nm=[]:=NM (λv d=>by
   obtain⟨k,c⟩:=kXT d;exact b (k+1) v c ip)
  grind [vM,mq]
 |a::r,i+1,w,h,b=>by
  show a.log.filter (vM nm)++mq r nm=_;rw[b 0 a rfl ip,kZA];exact yv (ws:=r) (i:=i) h (λk v c V=>b (k+1) v c ip)
theorem BK:∀ {ws:List eJ} {i:Nat} {w w':eJ},ws[i]? =some w->w'.log.filter (vM nm)=w.log.filter (vM nm)->mq (ws.set i w') nm=mq ws nm
 | [],_,_,_,h,_=>by cases h
 |a::r,0,w,w',h,e=>by
  grind [vM,mq]
 |a::r,i+1,w,w',h,e=>by
  show a.log.filter (vM nm)++mq (r.set i w') nm=a.log.filter (vM nm)++mq r nm;rw[BK (ws:=r) (i:=i) h e]
theorem Ac:∀ {ws:List eJ} {i:Nat} {w:eJ},ws[i]? =some w->w.log.filter (vM nm)=[]->mq (ws.eraseIdx i) nm=mq ws nm
 | [],_,_,h,_=>by cases h
 |a::r,0,w,h,e=>by
  grind [mq,vM]
 |a::r,i+1,w,h,e=>by
  show a.log.filter (vM nm)++mq (r.eraseIdx i) nm=a.log.filter (vM nm)++mq r nm;rw[Ac (ws:=r) (i:=i) h e]
structure pW(B:List bS)(d:DB):Prop where
 tw:TW B
 S:d.ao.map (·.S)=B.map (·.S)
 at_:∀(j:Nat) (t b:bS),d.ao[j]? =some t->B[j]? =some b->Pl b (mq d.ai t.S.name) t
 wt:∀x∈d.waits,∃w∈d.ai,w.s=x.s
theorem pW.same{a:DB}(q:pW B d)(h:a.ao=d.ao)(e:∀nm,mq a.ai nm=mq d.ai nm)(f:∀x∈a.waits,∃w∈a.ai,w.s=x.s):pW B a:=
 ⟨q.tw,by rw[h];exact q.S,λj t b c g=>by rw[e];rw[h]at c;exact q.at_ j t b c g,f⟩
theorem YL{a:Type}{l:List a}(h:∀x∈l,False):l=[]:=kQI.2 h
theorem pW.Pv(q:pW B d)(h:d.ai=[]):d.waits=[]:=YL (λx hx=>by
 obtain⟨w,a,-⟩:=q.wt x hx
 grind)
theorem SC.cQr(q:SC d)(h:d.ai=[]):d.holds=[]:=YL (λx hx=>by
 obtain⟨w,a,-⟩:=q.hw x hx
 grind)
theorem pW.idle(q:pW B d)(h:d.ai=[]):d.ao=B:=by
 apply kZq;intro j;cases c:d.ao[j]? with
 |none=>
  cases a:B[j]? with
  |none=>rfl
  |some b=>
   obtain⟨u,e⟩:=VU q.S a
   grind
 |some t=>obtain⟨b,a⟩:=VU q.S.symm c;have:=q.at_ j t b c a;rw[h]at this;rw[a];exact congrArg some this
theorem pW.self(h:TW d.ao)(w:d.ai=[])(c:d.waits=[]):pW d.ao d:=
 ⟨h,rfl,λj t b c a=>by rw[w];rw[c]at a;exact Option.some.inj a,λx hx=>gg⟩
theorem pW.TY(q:pW B d)(s:SC d)(f:d.ai[i]? =some w)(k:Nat)(M:List mS)(H W:List bZ)(G:∀x∈W,∃w∈d.ai,w.s=x.s):pW B ⟨ea d.ao (w.log.drop k),d.ai.set i ⟨w.s,w.log.take k,M⟩,H,W⟩:=by
 have D:=kQR f;have E:=(HH.1 f).1;have hl:=(s.log w D).1;have S:=pI d.ao (w.log.drop k);refine⟨q.tw,S.trans q.S,λj u b a z=>?_,λx hx=>?_⟩;rotate_left
 .grind [hx,pY]
 obtain⟨t,n⟩:=VU S.symm a;have h:=LA s.tw n (l:=w.log.drop k) (λx hx=>hl x (kXN hx));have a:(ea d.ao (w.log.drop k))[j]? =some u:=a;have X:u.S=t.S:=bXy S n a;rw[a]at h;have C:=Option.some.inj h;have p:=q.at_ j t b n z;show Pl b (mq (d.ai.set i ⟨w.s,w.log.take k,M⟩) u.S.name) u;rw[X];have I:w.log.filter (vM t.S.name)=(w.log.take k).filter (vM t.S.name)++(w.log.drop k).filter (vM t.S.name):=by rw[<-kXP,GD]
 by_cases A:(w.log.drop k).filter (vM t.S.name)=[]
 .grind [BK]
 obtain⟨c,Q⟩:=List.exists_mem_of_ne_nil _ A;obtain⟨J,F⟩:=kZp.1 Q;obtain⟨x,hx,o,r,y⟩:=s.lg w D c (kXN J);have g:∀k v,d.ai[k]? =some v->k≠i->v.log.filter (vM t.S.name)=[]:=λk v m V=>alone s ⟨x,hx,o,r.trans (kZr F),y⟩ (kQR m) (λe=>V (mH s.gi f k v m e));rw[yv f g,I]at p;rw[yv (kXU E) (λK v m V=>gg),C];exact aJB p
theorem SQ(c:SC d)(b:-2^63<=s/\s<2^63)(h:∀x∈d.waits,∃w∈d.ai,w.s=x.s):∀x∈bX d.waits s,∃w∈tU d.ai s,w.s=x.s:=λx hx=>by
 obtain⟨a,g⟩:=qz.1 hx;obtain⟨w,f,e⟩:=h x a;exact⟨w,(xy c.gi c.mX b w).2 ⟨f,gg⟩,e⟩
theorem pW.back(q:pW B d)(c:SC d)(e:-2^63<=s/\s<2^63):pW B (jo d s):=by
 have Z:=SQ c e q.wt;unfold jo tV;unfold tU at Z |-;cases h:iC (cf d.ai s)with
 |false=>rw[h]at Z;exact q.same rfl (λ_=>rfl) Z
 |true=>
  rw[h]at Z;obtain⟨w,b⟩:=ay (xs:=d.ai) (i:=dE (cf d.ai s)) (by simpa[cf]using jk h);rw[if_pos rfl]at Z;rw[if_pos rfl,if_pos rfl,b];have f:=(HH.1 b).1;refine(q.TY c b 0 [] [] [] (λx hx=>by cases hx)).same rfl (λnm=>?_) Z;have:=Ac (nm:=nm) (kXU (a:=(⟨w.s,w.log.take 0,[]⟩:eJ)) f) rfl
  grind
theorem pW.kC(hd:bZ)(s:0<=hd.s/\hd.s<8):∀(f:Nat) (d:DB),SC d->(∃w∈d.ai,w.s=hd.s)->pW B d->pW B (kC f d hd).1
 |0,d,_,_,c=>c
 |f+1,d,q,h,c=>by
  have a:=QO q h (cW d.holds d.waits hd);have e:pW B ⟨d.ao,d.ai,cT d.holds hd,cW d.holds d.waits hd⟩:=c.same rfl (λ_=>rfl) (λx hx=>by
   have hx:x∈cW d.holds d.waits hd:=hx;unfold cW at hx;split at hx
   .exact c.wt x (qz.1 hx).1
   rcases kJj.1 hx with hx|hx
   .exact c.wt x (qz.1 hx).1
   grind)
  unfold Go.S.kC;by_cases V:bW d.holds hd=true
  .grind
  rw[if_neg V];by_cases v:(dg (cN (cT d.holds hd) (cW d.holds d.waits hd)) hd.s).2=true
  .rw[if_pos v];have O:-2^63<=(dg (cN (cT d.holds hd) (cW d.holds d.waits hd)) hd.s).1/\(dg (cN (cT d.holds hd) (cW d.holds d.waits hd)) hd.s).1<2^63:=by
    have:=og (cN (cT d.holds hd) (cW d.holds d.waits hd)) hd.s;rcases this.out with⟨i,-⟩|⟨-,j,k,b,-⟩
    .grind
    rcases b with b| ⟨b,-⟩
    .rw[b];omega
    obtain⟨x,hx,g⟩:=qZ (uF b);obtain⟨w,h,r⟩:=a.hw x hx;have:=a.mX w h;omega
   by_cases U:(dg (cN (cT d.holds hd) (cW d.holds d.waits hd)) hd.s).1=hd.s
   .rw[if_pos (kS U)];exact e.back a O
   rw[if_neg (iu U)];refine pW.kC hd s f _ (BM a O) ?_ (e.back a O);obtain⟨w,h,g⟩:=h;exact⟨w,(xy a.gi a.mX O w).2 ⟨h,gg⟩,g⟩
  grind
theorem pW.hold(c:pW B d)(q:SC d)(hd:bZ)(h:-2^63<=hd.s/\hd.s<2^63):pW B (cC d hd).1:=by
 unfold cC;by_cases U:FO d hd=true
 .rw[if_pos U];unfold FO at U;rw[kZj]at U;obtain⟨w,a,e⟩:=(kP q.gi q.mX h).1 U.1;have:=q.mX w a
  grind [pW.kC]
 grind
theorem pW.change{hd:bZ}{t:bS}(q:pW B d)(g:yB n hd d i w j t)(hx:hd.x=true){c:cR}(p:c.table=hd.table)(D:QZ t c t')(l:Dt t' c=t):pW B ⟨d.ao.set j t',d.ai.set i ⟨w.s,w.log++[c],w.marks⟩,d.holds,d.waits⟩:=by
 have E:=(HH.1 g.wi).1;have F:=(HH.1 g.tj).1;have f:t'.S=t.S:=by have:=aQF t c;rw[D.eq]at this;exact this
 have S:=FB (T:=d.ao) (j:=j) (t':=t') (λu l=>by rw[g.tj]at l;grind);refine⟨q.tw,S.trans q.S,λk u b a o=>?_,λx hx=>?_⟩;rotate_left
 .obtain⟨v,C,G⟩:=q.wt x hx;obtain⟨y,H,K⟩:=(pY (w':=⟨w.s,w.log++[c],w.marks⟩) g.wi rfl).2.1 v C
  grind
 have a:(d.ao.set j t')[k]? =some u:=a;show Pl b (mq (d.ai.set i ⟨w.s,w.log++[c],w.marks⟩) u.S.name) u;by_cases X:j=k
 .subst X;rw[kXU F]at a;cases a;have r:=q.at_ j t b g.tj o;obtain⟨x,s,z,A,m⟩:=g.hl;rw[hx]at m;have J:∀k v,d.ai[k]? =some v->k≠i->v.log.filter (vM t.S.name)=[]:=λk v a V=>alone g.sc ⟨x,s,z.trans g.ws.symm,A.trans g.tn.symm,iu m⟩ (kQR a) (λe=>V (mH g.sc.gi g.wi k v a e));rw[yv g.wi J]at r;rw[f,yv (kXU E) (λI v a V=>gg)];show Pl b ((w.log++[c]).filter (vM t.S.name)) t';rw[kXP,show [c].filter (vM t.S.name)=[c]from kZw (kS (p.trans g.tn.symm))];exact RQ.2 ⟨t,r,D,l⟩
 rw[kJK X]at a;have V:¬vM u.S.name c=true:=λh=>X (Ka g.sc.tw.gi g.tj a (by rw[g.tn,<-p];exact kZr h));rw[BK g.wi (w':=⟨w.s,w.log++[c],w.marks⟩) (by
  grind)]
 exact q.at_ k u b a o
theorem bKX{S:rM}(f:S.cols=bI)(b:S.key=0){r:Row}(h:SO R)(d:gC r){T:bS×Int}(j:bL ⟨S,R⟩ r=T)(e:T.2=0)(nm:ByteArray):QZ ⟨S,R⟩ ⟨nm,1,r⟩ T.1/\Dt T.1 ⟨nm,1,r⟩=⟨S,R⟩:=by
 subst j;refine⟨⟨?_,λh=>absurd rfl h,h.le⟩,?_⟩
 .grind [KF,bL]
 have k:=d.fits;obtain⟨a,v,rfl,-⟩:=d;obtain⟨p,q⟩:=h.sr.at_ a;have l:=jv (S:=S) b h.sr (by rw[f];exact k) q;rw[l]at e |-;show(bE _ ⟨2,a,dQ⟩).1=_;by_cases c:jO R a p=true
 .grind
 rw[if_neg c]at e |-;by_cases g:decide ((R.length:Int)>=200)=true
 .grind
 rw[if_neg g];have i:=h.sr.ins (v:=v) q (iu c);obtain⟨m,n⟩:=q.ins (v:=v);rw[je (S:=S) b i m,if_pos n,Kj q.le]
theorem Iw:∀r:Row,kY r r=true
 | []=>rfl
 |a::r=>by
  show(ij a a&&kY r r)=true;rw[(Us a a).2 rfl,Iw r];rfl
theorem aZL{S:rM}(i:S.cols=bI)(f:S.key=0)(t:S.only=false){a:Int}(h:SO R){T:bS×Row×Int}(g:bE ⟨S,R⟩ ⟨2,a,dQ⟩=T)(e:T.2.2=0)(nm:ByteArray):QZ ⟨S,R⟩ ⟨nm,2,T.2.1⟩ T.1/\Dt T.1 ⟨nm,2,T.2.1⟩=⟨S,R⟩:=by
 obtain⟨p,q⟩:=h.sr.at_ a;have c:=je (S:=S) f h.sr q;rw[g]at c;by_cases d:jO R a p=true
 .rw[if_pos d]at c;obtain⟨o,r,k,Q⟩:=q.filter h.sr d;rw[r]at c;have O:=h.ok o (kQR r);have s:=O.fits;obtain⟨b,v,rfl,-⟩:=O;have j:b=a:=k;subst j;have m:=jg R p;obtain⟨u,w⟩:=q.del h.sr d;subst c;refine⟨⟨?_,λ_=>⟨by show 2=S.cols.length;rw[i];rfl,gg,gg⟩,h.le⟩,?_⟩
  .show HR ⟨S,R⟩ ⟨nm,2,[⟨2,b,dQ⟩,v]⟩=_;unfold HR;rw[if_neg gg,if_neg gg,if_neg gg];show(if(bE ⟨S,R⟩ (keyOf S.key [⟨2,b,dQ⟩,v])).2.2=0/\kY (bE ⟨S,R⟩ (keyOf S.key [⟨2,b,dQ⟩,v])).2.1 [⟨2,b,dQ⟩,v]=true then _ else _)=_;rw[show keyOf S.key [⟨2,b,dQ⟩,v]=⟨2,b,dQ⟩by rw[f];rfl,g,if_pos ⟨rfl,Iw _⟩]
  show(bL ⟨S,R.take p++R.drop (p+1)⟩ [⟨2,b,dQ⟩,v]).1=_;have n:=h.sr.sub m;have Z:=(HH.1 r).1;have l:=h.le
  grind [jv,KJ]
 grind
theorem pW.act{F:DB}(c:pW B d)(o:SJ n d)(b:-2^63<=s/\s<2^63)(h:lV s d F):pW B F:=by
 cases h with
 |begin=>
  unfold iP jl;repeat' split
  all_goals first|exact c|skip
  refine c.same rfl (λnm=>?_) (λx hx=>?_);rotate_left
  .obtain⟨w,m,f⟩:=c.wt x hx;refine⟨w,?_,f⟩;show w∈d.ai.take (dE (cf d.ai s))++[⟨s,[],[]⟩]++d.ai.drop (dE (cf d.ai s));rw[<-GD (dE (cf d.ai s)) d.ai]at m
   grind
  show mq (d.ai.take _++[⟨s,[],[]⟩]++d.ai.drop _) nm=_;unfold mq;rw[List.flatMap_append,List.flatMap_append,List.flatMap_singleton,List.filter_nil,kJH,<-List.flatMap_append,GD]
 |hold nm x=>exact c.hold o.sc _ b
 |put nm C K=>
  rename_i r;have k:=c.hold o.sc ⟨s,nm,true⟩ b;obtain⟨⟨J,e⟩,H⟩:∃X,cC d ⟨s,nm,true⟩=X:=⟨_,rfl⟩;rw[H]at k;by_cases f:e=0
  .subst f;obtain⟨i,w,j,⟨S,R⟩,g⟩:=jN o.sc o.RX b H;obtain⟨M,A⟩:=Cx H g C K (D:=oN d s nm r) rfl;obtain⟨q,y,-⟩:=g.sc.tw.ok _ (kQR g.tj);obtain⟨t,u⟩:=q (by rw[g.tn];exact C);by_cases p:(w.log.length:Int)>=60
   .grind
   obtain⟨T,l⟩:∃T,bL ⟨S,R⟩ r=T:=⟨_,rfl⟩;obtain⟨N,E⟩:=A p T l;by_cases G:T.2=0
   .obtain⟨L,z⟩:=E G;rw[z];obtain⟨a1,a2⟩:=bKX t u y L l G nm;exact k.change g rfl rfl a1 a2
   grind
  grind [oN,jB]
 |take nm C a=>
  have k:=c.hold o.sc ⟨s,nm,true⟩ b;obtain⟨⟨J,e⟩,H⟩:∃X,cC d ⟨s,nm,true⟩=X:=⟨_,rfl⟩;rw[H]at k;by_cases f:e=0
  .subst f;obtain⟨i,w,j,⟨S,R⟩,g⟩:=jN o.sc o.RX b H;obtain⟨M,A⟩:=zE H g (a:=a) C (D:=lZ d s nm ⟨2,a,dQ⟩) rfl;obtain⟨q,y,-⟩:=g.sc.tw.ok _ (kQR g.tj);obtain⟨t,u⟩:=q (by rw[g.tn];exact C);cases I:S.only with
   |true=>grind
   |false=>
    obtain⟨N,E⟩:=A I;by_cases p:(w.log.length:Int)>=60
    .grind
    obtain⟨T,l⟩:∃T,bE ⟨S,R⟩ ⟨2,a,dQ⟩=T:=⟨_,rfl⟩;obtain⟨Q,O⟩:=E p T l;by_cases G:T.2.2=0
    .obtain⟨L,z⟩:=O G;rw[z];obtain⟨a1,a2⟩:=aZL t u I y l G nm;exact k.change g rfl rfl a1 a2
    grind
  grind [lZ,dQ,jB]
 |rows nm=>
  have k:=c.hold o.sc ⟨s,nm,false⟩ b;unfold qI
  grind
 |save nm=>
  unfold kX;repeat' split
  all_goals first|exact c|skip
  rename_i w m _;refine c.same rfl (λnm=>BK m rfl) (λx hx=>?_);obtain⟨v,P,f⟩:=c.wt x hx
  grind [pY]
 |back nm=>
  unfold mu;split
  .split
   .rename_i w m;split
    .exact c.TY o.sc m _ _ _ _ c.wt
    exact c
   exact c
  exact c
 |tz=>
  unfold cA;split
  .exact c.back o.sc b
  exact c
theorem bJl{T:List bS}(S:T.map (·.S)=B.map (·.S))(h:∀(j:Nat) (t b:bS),T[j]? =some t->B[j]? =some b->t=b):T=B:=by
 apply kZq;intro j
 grind [VU]
theorem dXU{T c:List bS}(e:c.map (·.S)=T.map (·.S))(h:T.Pairwise (λa b=>dy a.S.name b.S.name<0)):c.Pairwise (λa b=>dy a.S.name b.S.name<0):=by
 have d:(T.map (·.S)).Pairwise (λa b=>dy a.name b.name<0):=List.pairwise_map.2 h
 grind
theorem XZ(r:B.Pairwise (λa b=>dy a.S.name b.S.name<0)):∀(n:Nat) (cs:List cR),cs.length=n->∀T:List bS,T.map (·.S)=B.map (·.S)->(∀(j:Nat) (t b:bS),T[j]? =some t->B[j]? =some b->Pl b (cs.filter (vM t.S.name)) t)->(∀c∈cs,∃t∈B,t.S.name=c.table)->∃tt:Nat->List bS,tt 0=B/\tt cs.length=T/\∀(i:Nat) (c:cR),cs[i]? =some c->DP (tt i) c (tt (i+1))
 |0,cs,q,T,S,p,_=>by
  have:=kZh q;subst this;exact⟨λ_=>B,rfl,(bJl S (λj t b d m=>p j t b d m)).symm,λi c h=>by cases h⟩
 |n+1,cs,q,T,S,p,s=>by
  obtain⟨cs',c,rfl⟩:∃cs' c,cs=cs'++[c]:=by
   rcases kXt cs with h| ⟨l,a,h⟩
   .grind
   grind
  obtain⟨u,w,C⟩:=s c io;obtain⟨j,o⟩:=kXT w;obtain⟨t,d⟩:=VU S o;have v:=bXy S.symm d o;have J:=dXU S r;have M:t.S.name=c.table:=gg
  have e:=p j t u d o;rw[kXP,show [c].filter (vM t.S.name)=[c]from kZw (kS M.symm)]at e;obtain⟨f,U,D,-⟩:=RQ.1 e;have W:f.S=t.S:=by
   have:=aQF f c;rw[D.eq]at this
   grind
  have R:=FB (T:=T) (j:=j) (t':=f) (λx hx=>gg);have E:=(HH.1 d).1;obtain⟨tt,h0,K,V⟩:=XZ r n cs' (iu q) (T.set j f) (R.trans S) (λk x b g m=>by
   by_cases X:j=k
   .grind
   rw[kJK X]at g;have:=p k x b g m;rw[kXP,kXX (λh=>X (Ka J d g (by rw[M];exact kZr h)))]at this
   grind) (λx hx=>s x (kJX _ hx))
  refine⟨λi=>if i<=cs'.length then tt i else T,h0,?_,λi x hx=>?_⟩
  .grind
  by_cases F:i<cs'.length
  .grind
  have:=(HH.1 hx).1;have A:i=cs'.length:=gg
  subst A;rw[kXV (qA _),kKd]at hx;have hx:c=x:=iu hx
  subst hx;show DP (if cs'.length<=cs'.length then tt cs'.length else T) c (if cs'.length+1<=cs'.length then tt (cs'.length+1)else T);rw[if_pos (qA _),if_neg ip,K];refine⟨j,f,t,kXU E,gg,λk g y G=>?_,D,?_⟩
  .grind [Ka]
  rw[List.set_set];obtain⟨hl,z⟩:=HH.1 d;rw[<-z];exact(List.set_getElem_self hl).symm
theorem pW.Dj(q:pW B d)(s:SC d)(m:d.ai[i]? =some w)(H W:List bZ)(G:∀x∈W,∃v∈d.ai.eraseIdx i,v.s=x.s):
 ∃f,pW f ⟨d.ao,d.ai.eraseIdx i,H,W⟩/\(w.log.length=0->f=B)/\∃tt:Nat->List bS,tt 0=B/\tt w.log.length=f/\∀i c,w.log[i]? =some c->DP (tt i) c (tt (i+1)):=by
 classical
 have D:=kQR m;have z:d.ao.length=B.length:=by simpa using congrArg List.length q.S
 obtain⟨f,O⟩:∃f,f=List.zipWith (λb t=>if w.log.filter (vM t.S.name)=[]then b else t) B d.ao:=⟨_,rfl⟩;have n:f.length=B.length:=gg
 have S:∀(j:Nat) (l:bS),f[j]? =some l->∃b t:bS,B[j]? =some b/\d.ao[j]? =some t/\b.S=t.S/\l=if w.log.filter (vM t.S.name)=[]then b else t:=λj l h=>by
  have y:=(HH.1 h).1;obtain⟨b,g⟩:=cK B j;obtain⟨t,a⟩:=cK d.ao j;rw[O,kXD,g,a]at h;exact⟨b,t,g,a,bXy q.S.symm a g,(Option.some.inj h).symm⟩
 have K:f.map (·.S)=B.map (·.S):=by
  apply kZq;intro j
  grind
 have o:∀ {nm:ByteArray},w.log.filter (vM nm)≠[]->∀k v,d.ai[k]? =some v->k≠i->v.log.filter (vM nm)=[]:=λ{nm} V k v p T=>by
  obtain⟨c,A⟩:=List.exists_mem_of_ne_nil _ V;obtain⟨J,N⟩:=kZp.1 A;obtain⟨x,hx,C,E,F⟩:=s.lg w D c J;exact alone s ⟨x,hx,C,E.trans (kZr N),F⟩ (kQR p) (λe=>T (mH s.gi m k v p e))
 refine⟨f,⟨⟨dXU K q.tw.gi,λx hx=>?_,by rw[n];exact q.tw.le⟩,q.S.trans K.symm,λj t l a u=>?_,G⟩,λh0=>?_,XZ q.tw.gi _ _ rfl f K (λj l b u g=>?_) (λc I=>?_)⟩
 .obtain⟨j,y⟩:=kXT hx;obtain⟨b,t,g,a,e,rfl⟩:=S j x y;split
  .exact q.tw.ok b (kQR g)
  exact s.tw.ok t (kQR a)
 .obtain⟨b,t',g,r,e,rfl⟩:=S j l u;have a:d.ao[j]? =some t:=a;rw[a]at r;cases r;show Pl _ (mq (d.ai.eraseIdx i) t.S.name) t;split
  .rename_i h;rw[Ac m h];exact q.at_ j t b a g
  rename_i h;rw[NM (λv M=>by
   obtain⟨k,p,X⟩:=rz.1 M
   grind)]
  rfl
 .grind [bJl]
 .obtain⟨P,t,Q,a,e,rfl⟩:=S j l u;rw[g]at Q;cases Q;split
  .rename_i h;rw[e,h];rfl
  rename_i h;have:=q.at_ j t b a g;rwa[yv m (o h)]at this
 obtain⟨t,a,L⟩:=((s.log w D).1 c I).at_;exact YS q.S.symm ⟨t,a,L⟩
theorem aQW(w:TW d.ao){x:cR}(h:vJ d.ao x):TD x:=by
 obtain⟨t,f,n⟩:=h.at_;have z:=(w.ok t f).2.2.1;rw[n]at z;obtain⟨a,v,r,g,c⟩:=h.row;have K:(ju v).length<=63/\dS v=0/\-2^63<=v.n/\v.n<2^63:=by
  rcases g with rfl| ⟨s,rfl,e⟩
  .exact⟨dl,dl,dl,dl⟩
  refine⟨?_,Lx e,gg,gg⟩;show(u8 3::dZ s).length<=63
  grind [dZ,gI,fX,jC]
 have i:=ck a;refine⟨h.op,ip,?_,?_⟩
 .rw[r];show(u8 2::((u8 2::cP a)++(ju v++[]))).length<65536
  grind
 rw[r];refine Mf gg (λy b=>?_);rcases kXB.1 b with rfl|b
 .exact⟨by simp[dS,ij,iM,dQ];decide,c⟩
 grind
theorem Xp(h:TW B):Small ⟨B,[],[],[]⟩:=
 ⟨kXj h.le dl,kXH _,λt a=>kXj (h.ok t a).2.1.le dl,gg,gg⟩
theorem cJO(up:∀a b,Q a->Q (a++b))(h:Q L.dq):Q (eZ L cs).dq:=by
 unfold eZ;split
 .exact up _ _ h
 exact h
structure RI(P:Nat)(Q:List nV->Prop)(G:Lg)(d:DB)(L:eO):Prop where
 out:∃rs sd sl B,xJ G P rs/\xI rs sd sl/\sd rs.length=⟨B,[],[],[]⟩/\sl rs.length=L/\pW B d
 kn:G.D.kept=G.D.now
 q:Q L.dq
structure WR(P m:Nat)(Q:List nV->Prop)(G:Lg)(d:DB)(L:eO):Prop extends WI P m G d L where
 ri:RI P Q G d L
 up:∀a b,Q a->Q (a++b)
theorem RI.go{f:Lg}{i:DB}{L':eO}(q:RI P Q G d L)(r:0<P){l:Bs}(hl:l.length<=65536)(j:aY G l=(0,f))(p:xK L')(s:Q L'.dq)(h:∀B,pW B d->∃a,pW a i/\rh ⟨B,[],[],[]⟩ L l ⟨a,[],[],[]⟩ L'):RI P Q f i L':=by
 have g:=j;obtain⟨u,v,sl,B,I,R,n,o,c⟩:=q.out;obtain⟨a,c',S⟩:=h B c;rw[<-n,<-o]at S;obtain⟨Z,b,a1,a2,m⟩:=R.snoc S p (Xp c'.tw);rcases rf I l hl r with⟨t,e,k,-⟩ |e
 .rw[j]at e;cases e;exact⟨⟨_,Z,b,a,k,a1,a2,m,c'⟩,Oa g,s⟩
 grind
theorem RI.hXf{a:DB}(q:RI P Q G d L)(h:∀B,pW B d->pW B a):RI P Q G a L:=by obtain⟨r,s,sl,B,I,R,b,e,c⟩:=q.out;exact⟨⟨r,s,sl,B,I,R,b,e,h B c⟩,q.kn,q.q⟩
theorem WR.act{a:DB}(q:WR P m Q G d L)(b:-2^63<=s/\s<2^63)(h:lV s d a)(j:SJ (m+1) a):WR P (m+1) Q G a L:=
 ⟨q.toWI.act b h j,q.ri.hXf (λB c=>c.act q.sj b h),q.up⟩
theorem RI.no(q:RI P Q G d L)(e:0<P){l:Bs}(hl:l.length<=65536):aY G l=(14,G)\/∃a,aY G l=(0,a):=by
 obtain⟨r,s,sl,B,I,R,h,b,c⟩:=q.out
 grind [rf,hl,inl]
theorem WR.Dj(q:WR P m Q G d L)(f:0<P)(y:m<2^15)(e:-2^63<=s/\s<2^63){W:Int×Int×Lg×DB×eO}(n:lH G d L s=W):WR P (m+1) Q W.2.2.1 W.2.2.2.1 W.2.2.2.2:=by
 refine⟨q.toWI.Dj f e n,?_,q.up⟩;obtain⟨p,k,l⟩:=yq q.sj.sc s;have r:=(GR q.sj.sc s).1;have z:=q.ri.hXf (λB c=>c.act q.sj e .tz);have I:=(q.zd.add (cs:=(bQ d s).2.1) ⟨gg,k⟩).PC (ip:m+1<2^16);have j:(bQ d s).2.2=0->∀B,pW B d->∃b,pW b (bQ d s).1/\((bQ d s).2.1.length=0->b=B)/\∃tt:Nat->List bS,tt 0=B/\tt (bQ d s).2.1.length=b/\∀i c,(bQ d s).2.1[i]? =some c->DP (tt i) c (tt (i+1)):=by
  unfold bQ;split
  .rename_i g;intro _ B c;obtain⟨w,o,-⟩:=EY q.sj.sc e g;have a:=SQ q.sj.sc e c.wt;unfold tU at a |-;rw[if_pos g]at a;rw[if_pos g,o];exact c.Dj q.sj.sc o _ _ a
  grind
 have T:=q.ri.no f (l L.next (eZ L (bQ d s).2.1));subst n;unfold lH;split
 .exact q.ri
 rename_i h0;have h0:(bQ d s).2.2=0:=Classical.not_not.1 h0;split
 .rename_i hl;exact q.ri.hXf (λB c=>by
   grind)
 rename_i hl;split
 .rename_i x;rcases T with h| ⟨v,h⟩
  .grind
  show RI P Q (aY G _).2 _ _;rw[h];exact q.ri.go f (l _ _) h I (cJO q.up q.ri.q) (λB c=>by
   obtain⟨b,c',-,tt,t,u,ts⟩:=j h0 B c;refine⟨b,c',?_⟩;have:=rh.tx (d:=⟨B,[],[],[]⟩) (L:=L) (cs:=(bQ d s).2.1) (tt:=tt) t ⟨ts,λc j=>aQW q.sj.sc.tw (r c j),k,ip,p⟩;rw[u]at this;exact this)
 grind
theorem MG(L:eO):cV (dp L).dq=(((L.dq.length+1:Nat):Int),eo (jQ L.oO L.dq),0):=by unfold cV;show(match (L.dq++[jQ L.oO L.dq]).getLast? with|none=>_|some b=>_)=_;rw[kZI];rfl
theorem WR.eQp(q:WR P m Q G d L)(a:0<P)(i:m<2^15){W:(Int×Bs×Int)×Lg×eO}(b:vE G L=W):WR P (m+1) Q W.2.1 d W.2.2:=by
 refine⟨q.toWI.eQp a b,?_,q.up⟩;have hl:(gq (cV (dp L).dq).1 (cV (dp L).dq).2.1).length<=65536:=by
  grind [gq,jz,ck]
 have o:=q.ri.no a hl;have k:=(q.zd.close).PC (ip:m+1<2^16);subst b;unfold vE;split
 .exact q.ri
 rename_i g;split
 .rename_i f;rcases o with h| ⟨e,h⟩
  .grind
  show RI P Q (aY G _).2 _ _;rw[h];exact q.ri.go a hl h k (q.up _ _ q.ri.q) (λB c=>⟨B,c,by rw[MG];exact .lQ g⟩)
 rename_i f;rcases o with h| ⟨e,h⟩
 .show RI P Q (aY G _).2 d L;rw[h];exact q.ri
 grind
theorem RI.Hv(q:RI P Q G d L)(z:Dr m L)(f:m<2^15)(b:0<P){l:Bs}(hl:l.length<=65536)(h:D.2=0->∀B,pW B d->∃a,pW a D.1/\rh ⟨B,[],[],[]⟩ L l ⟨a,[],[],[]⟩ L):RI P Q (Hv G d D l).2.1 (Hv G d D l).2.2 L:=by
 have o:=q.no b hl;unfold Go.S.Hv;split
 .exact q
 rename_i h0;have h0:D.2=0:=Classical.not_not.1 h0;rcases o with e| ⟨c,e⟩
 .grind
 show RI P Q (aY G l).2 (if(aY G l).1=0 then D.1 else d) L;rw[e,if_pos rfl];exact q.go b hl e (z.PC ip) q.q (h h0)
theorem QG{H W:List bZ}{x:rM}(h:(bP ⟨B,[],H,W⟩ x).2=0):bP ⟨B,[],[],[]⟩ x=(⟨(bP ⟨B,[],H,W⟩ x).1.ao,[],[],[]⟩,0):=by
 unfold bP fJ at h |-;by_cases h0:eY ⟨B,[],H,W⟩ x (iC (aU B x.name))=0
 .have a:eY ⟨B,[],[],[]⟩ x (iC (aU B x.name))=0:=h0;rw[if_pos h0,if_pos a];rfl
 grind
theorem NH{x:rM}(h:(bP d x).2=0):d.ai=[]/\(bP d x).1.ai=[]/\(bP d x).1.waits=d.waits:=by
 unfold bP fJ at h |-;split at h
 .rename_i h0;rw[if_pos h0];unfold eY at h0;split at h0
  .grind
  split at h0
  .cases h0
  split at h0
  .cases h0
  split at h0
  .cases h0
  rename_i w;have:d.ai=[]:=kZh (iu w);exact⟨this,this,rfl⟩
 grind
theorem bKI(n:nm=tG\/nm=iY\/nm=KX){k:Nat}(a:k<3):(aR 1 (some (eQ (Ak nm k)))).1=1/\(ey (Ak nm k)=0->eB (bq (aR 1 (some (eQ (Ak nm k)))).2).1=some (Ak nm k))/\(bq (aR 1 (some (eQ (Ak nm k)))).2).2=some []:=by
 have a:k=0\/k=1\/k=2:=ip
 rcases n with rfl|rfl|rfl
 .rcases a with rfl|rfl|rfl<;>exact⟨by kernel_rfl,λ_=>by kernel_rfl,by kernel_rfl⟩
 .rcases a with rfl|rfl|rfl<;>exact⟨by kernel_rfl,λ_=>by kernel_rfl,by kernel_rfl⟩
 refine⟨?_,λh=>absurd h (Pt ip),?_⟩<;>rcases a with rfl|rfl|rfl<;>kernel_rfl
theorem WR.create(q:WR P m Q G d L)(b:0<P)(e:m<2^15){k:Nat}(a:k<3)(n:nm=tG\/nm=iY\/nm=KX):WR P (m+1) Q (fQ G d (Ak nm k)).2.1 (fQ G d (Ak nm k)).2.2 L:=by
 refine⟨q.toWI.create b a n,?_,q.up⟩;have z:nm.size<=4:=by rcases n with rfl|rfl|rfl<;>decide
 have V:=oW q.sj.sc.tw.gi (Ak nm k);obtain⟨r,o,s⟩:=bKI n a;refine q.ri.Hv q.zd e b (bXV z k) (λh0 B c=>?_);obtain⟨w,g,i⟩:=NH h0;have l:=c.idle w;have p:ey (Ak nm k)=0:=by
  grind [bP,fJ,eY]
 have X:TW (bP d (Ak nm k)).1.ao:=by
  rw[V];refine(Jk q.sj.sc (λh=>?_) (by show nm.size<=12;omega)).1.tw;exfalso;rcases n with rfl|rfl|rfl
  .exact h rfl
  .rw[V]at h0;unfold dx at h0;split at h0
   .grind
   rw[if_pos (by
    obtain⟨t,f,n⟩:=q.ta;exact wM.2 ⟨t,f,kS n⟩)]at h0
   cases h0
  exact Pt a p
 refine⟨_,pW.self X g (i.trans (c.Pv w)),.bXX r ?_⟩;obtain⟨T,W,H,j⟩:=d
 grind [oh,bP,Ak,QG]
theorem WR.drop(q:WR P m Q G d L)(a:0<P)(e:m<2^15)(z:nm.size<=4)(n:nm≠iY):WR P (m+1) Q (mj G d nm).2.1 (mj G d nm).2.2 L:=by
 refine⟨q.toWI.drop a z n,?_,q.up⟩;have f:(bq (some (pK nm)))=(jZ nm,some []):=by have:=AE (s:=nm) ip [];rwa[kJH]at this
 refine q.ri.Hv q.zd e a (l:=eX nm) (by
  grind [eX,pK,gI,fX,jC]) (λh0 B c=>?_)
 have V:strOf (jZ nm)=nm:=by unfold strOf jZ;simp
 have X:=(SU q.sj.sc nm).1.tw;obtain⟨T,b,H,t⟩:=d;have w:b=[]:=by
  unfold dY at h0;split at h0
  .split at h0
   .cases h0
   rename_i w;exact kZh (iu w)
  cases h0
 subst w;have h:=c.idle rfl;have h:T=B:=h;subst h;have g:iC (aU T nm)=true:=by
  grind [iC,aU,dY]
 have hd:∀H W,dY ⟨T,[],H,W⟩ nm=(⟨T.eraseIdx (dE (aU T nm)),[],H,W⟩,0):=λH W=>by
  grind [dY]
 rw[hd]at X |-;refine⟨_,pW.self X rfl (c.Pv rfl),.drop ?_ ?_⟩
 .show(aR 1 (some (u8 2::pK nm))).1=2;rw[fF];rfl
 show jY ⟨T,[],[],[]⟩ (aR 1 (some (u8 2::pK nm))).2=_;rw[fF]
 grind [jY,dY,strOf,bq,pK]
theorem eQn{w p x s t:Nat}(W:Wl h w p x s t)(q:nT h s p G d L)(r:sO nH h t x G d L)(O:WR P m Q G d L)(hP:0<P)(Qt:P<=4096)(hm:m<=2^10){kk N a1 a2 a3 a4:Int}{ax:Bool}{pb:Option Addr}{pn pc:Nat}
 (Qe:(kk % ((18:Nat):Int)).toNat<15) (aH:-2^63<=a2/\a2<2^63) (aG:-2^63<=a4/\a4<2^63) 
 (hk:∀h' G' d' L',Wl h' w p x s t->nT h' s p G' d' L'->sO nH h' t x G' d' L'->WR P (m+1) Q G' d' L'->k (.bool true) h'):
 Ct 21 [.zP w,.agg #[.zI kk,.zI N,.zI a1,.zI a2,.zI a3,.zI a4,.bool ax,.slice pb pn pc]] h k:=by
 obtain⟨A,hA⟩:=Ar.ex;have gw:=W.out;obtain⟨n1,n2,n3,n4⟩:=O.g.aJJ Qt hm;have lb:=O.zd.PC ip;have DG:=O.zd.o;have jD:=O.sj.RX;have hI:SI d:=O.sj.sc.si jD ip;have sm:=jD.small ip;have tw:=O.sj.sc.tw;have BZ:=O.g.lb;have ZG:∀t∈d.ao,t.S.name.size<=2^60:=λt ht=>by have:=(tw.ok t ht).2.2.1;omega
 have UW:=tw.le;have Nw:∀z:Int,A .aQ .eql z z=true:=λz=>by rw[au A];simp
 have aI:∃j,j=(N % ((3:Nat):Int)).toNat/\j<3:=⟨_,rfl,ip⟩;obtain⟨j,UZ,aC⟩:=aI;have kI:∀(zz:Int) (H:Nat),bg zz H->H=j->A .aX .add .i64 1 zz=((1+j:Nat):Int):=λzz H hz F=>by
  rw[hA.aX,hz.eq,F];show IntKind.i64.wrap (1+(j:Int))=_;rw[IntWalk.i64_in _ ip];omega
 obtain⟨zc,Gh⟩:∃zc:Int,zc=((1+j:Nat):Int):=⟨_,rfl⟩;rw[<-Gh]at kI;refine fT A [7,23] (aj fZF.aw fZF.bz) Tryz.func21 rfl (by kernel_rfl) ?_;cbv;refine eP kk 18 dl dl _ (λzk ik HE Ss Nd=>?_);have Nf:ik<15:=gg
 have dI:=HE.eq;have fl:A .aQ .lss zk 10=decide (ik<10):=by rw[aV A,dI];grind
 cbv;rw[fl];by_cases hc:ik<10
 .rw[kS hc];clear fl Ss;obtain⟨C,fo⟩:∃C:Int->ad->Prop,∀g h',C g h'=(h'=h/\(g % ((15:Nat):Int)).toNat≠11/\(g % ((15:Nat):Int)).toNat≠13/\(g % ((15:Nat):Int)).toNat≠14):=⟨_,λ_ _=>rfl⟩;have aw:C 2 h:=gg
  cbv;refine kK.go (G:=Int) (λ_=>[]) (λg=>[(3,[.zI kk,.zI N,.zI a1,.zI a2,.zI a3,.zI a4,.bool ax,.slice pb pn pc]),(6,[.zI g,.zI a2,.zI a3,.zI a4,.bool ax])]) C ?_ ?_
  .cbv;refine eP a1 15 dl dl _ (λzi H f V aK=>?_);have aD:A .aQ .eql zi 11=decide (H=11):=by rw[au A,f.eq];grind
   have aE:A .aQ .geq zi 13=decide (13<=H):=by rw[cF A,f.eq];grind
   have Bx:H≠11->¬13<=H->C a1 h:=λu v=>gg
   clear fo;cbv;rw[aD];by_cases ag:H=11
   .rw[kS ag];cbv;refine⟨2,⟨?_,?_,?_⟩,aw⟩<;>cbv
   rw[kQW ag];cbv;rw[aE];by_cases ak:13<=H
   .rw[kS ak];cbv;refine⟨2,⟨?_,?_,?_⟩,aw⟩<;>cbv
   rw[kQW ak];have Bx:=Bx ag ak;cbv;refine⟨a1,⟨?_,?_,?_⟩,Bx⟩<;>cbv
  intro g h' U;rw[fo]at U;cbv;obtain⟨rfl,hg⟩:=U;obtain⟨lg,b1,y1,c1,b2,y2,c2,b3,y3,c3,b4,y4,c4,e1,m1,d1,e2,m2,d2,e3,m3,d3,gt,ql,qk,qd,qL⟩:=r.out;repeat (first|rw[av A] | (refine cy gw ?_;cbv)|(refine cy gt ?_;cbv)|(refine zqr ?_;cbv))
  refine fZJ q (λb f1 p1 r1 f2 p2 Y f3 p3 r3 f4 p4 r4 l Mm=>?_);have J:=l _ _ gw;have ao:=l _ _ gt;have S:=q.le l;cbv;repeat (first|rw[av A] | (refine cy J ?_;cbv)|(refine cy ao ?_;cbv)|(refine zqr ?_;cbv))
  refine bJp Mm (qd.lt (l.t _)) O.sj ip g a2 a3 a4 ax hg aH aG (λc f1 p1 r1 f2 p2 Y f3 p3 r3 f4 p4 r4 u1 v1 w1 u2 v2 w2 u3 v3 w3 u4 v4 w4 d' se M qP pR J2 pQ fV=>?_);have HP:=M _ _ J;have an:=M _ _ ao;have q2:=S.le M;have fk:=l.trans M;have fin:∀Z h4,ep [158] c Z->nT Z s p G d' L->h4=bO Z t (.cells #[.zP lg,.slice u1 v1 w1,.slice u2 v2 w2,.slice u3 v3 w3,.slice u4 v4 w4,.zI L.next,.slice e1 m1 d1,.slice e2 m2 d2,.slice e3 m3 d3] 197 (0,0))->k (.bool true) h4:=λZ h4 I q3 hh=>by
   have al:=I _ _ an (λ_ _ _ F=>gg);have Vn:=I _ _ HP (λ_ _ _ F=>gg);obtain⟨g4,x4⟩:=rW al hh;have D:=O.act pQ fV J2;have rn:=r.new;exact hk h4 G d' L ⟨x4 _ _ Vn (λ_ _ _ F=>gg)⟩ (q3.lt (x4.t dl)) ⟨⟨lg,_,_,_,_,_,_,_,_,_,_,_,_,_,_,_,_,_,_,_,_,_,g4,((ql.lt (fk.t _)).lt (I.t dl)).lt (x4.t dl),((qk.le fk).lt (I.t dl) (jU _)).lt (x4.t dl) (jU _),(pR.lt (I.t dl)).lt (x4.t dl),((qL.ls (fk.t _)).ls (I.t dl)).ls (x4.t dl)⟩,rn⟩ D
  clear hk r O Mm J ao S;cbv;repeat (first|rw[av A] | (refine cy HP ?_;cbv)|(refine zqr ?_;cbv))
  refine fQd q2 qP (λZ I q3=>?_);have fin:=λh4=>fin Z h4 I q3;have al:=I _ _ an (λ_ _ _ F=>gg);have Vn:=I _ _ HP (λ_ _ _ F=>gg);clear q2 qP HP an;cbv;repeat (first|rw[av A] | (refine cy Vn ?_;cbv)|(refine zqr ?_;cbv))
  refine jE al io (λh4 hh=>?_);have:=fin h4 hh;clear fin hh;cbv;exact this
 rw[kQW hc];have dI:zk=(ik:Int):=HE.eq;have Br:(zk=10\/zk=11)\/zk=12\/zk=13\/zk=14:=ip
 obtain⟨i4,az,aL⟩:∃i4,i4=(a2 % ((4:Nat):Int)).toNat/\i4<4:=⟨_,rfl,ip⟩;obtain⟨zs,Zi⟩:∃zs:Int,zs=(i4:Int):=⟨_,rfl⟩;have aq:-2^63<=zs/\zs<2^63:=ip
 clear fl Ss HE dI Nf Nd;rcases Br with Ql|rfl|rfl|rfl
 .obtain⟨⟨o1,o2,n,R,cL⟩,E⟩:∃X,lH G d L zs=X:=⟨_,rfl⟩;obtain⟨qu,HN,-⟩:=yq O.sj.sc zs;have D:=O.Dj hP ip aq E;have D:WR P (m+1) Q n R cL:=D;rcases Ql with rfl|rfl
  all_goals
   cbv;repeat (rw[au A];cbv)
   repeat (first|rw[av A] | (refine cy gw ?_;cbv)|(refine zqr ?_;cbv))
   refine eP a2 4 dl dl _ (λz i hz hi _=>?_);cbv;obtain rfl:z=zs:=by rw[hz.eq,hi,<-az,Zi]
   repeat (first|rw[av A] | (refine cy gw ?_;cbv)|(refine zqr ?_;cbv))
   refine TB q z jD ip lb qu HN n2 n3 n4 E (λb x1 S=>?_);have S:nT b s p n R cL:=S;have J:=x1 _ _ gw (λ_ _ _ F=>by cases F;decide);have r1:=r.lt (x1.t dl) (jU _);cbv;repeat (first|rw[av A] | (refine cy J ?_;cbv)|(refine zqr ?_;cbv))
   refine eP a2 4 dl dl _ (λz2 i2 mf ZZ _=>?_);cbv;obtain rfl:z2=z:=by rw[mf.eq,ZZ,<-az,Zi]
   repeat (first|rw[av A] | (refine cy J ?_;cbv)|(refine zqr ?_;cbv))
   refine Om r1 z2 aq hI lb DG qu HN BZ n1 n3 n4 E (λc x2 Y=>?_);have Y:sO nH c t x n R cL:=Y;have:=hk c n R cL ⟨x2 _ _ J (λ_ _ _ F=>by cases F;decide)⟩ (S.lt (x2.t dl)) Y D;clear hk;cbv;rw[Nw];cbv;rw[Nw];cbv;exact this
 .obtain⟨⟨⟨en,ab,ee⟩,n,cL⟩,E⟩:∃X,vE G L=X:=⟨_,rfl⟩;have D:=O.eQp hP ip E;have D:WR P (m+1) Q n d cL:=D;have Hu:ab.length=32:=KH E;cbv;repeat (rw[au A];cbv)
  repeat (first|rw[av A] | (refine cy gw ?_;cbv)|(refine zqr ?_;cbv))
  refine bXQ q lb n2 n3 n4 E (λb g1 x1 S ui=>?_);have S:nT b s p n d cL:=S;have ui:hl g1=aT ab:=ui;have J:=x1 _ _ gw (λ_ _ _ F=>gg);have r1:=r.lt (x1.t dl) (jU _);cbv;repeat (first|rw[av A] | (refine cy J ?_;cbv)|(refine zqr ?_;cbv))
  refine bJJ r1 lb BZ n1 n3 n4 E (λc g2 x2 Y EF=>?_);have Y:sO nH c t x n d cL:=Y;have EF:hl g2=aT ab:=EF;have:=hk c n d cL ⟨x2 _ _ J (λ_ _ _ F=>gg)⟩ (S.lt (x2.t dl)) Y D;clear hk;cbv;refine QB ui EF Hu ?_;cbv
  grind
 .have PY:∃nm,[tG,iY,KX][j]? =some nm/\(nm=tG\/nm=iY\/nm=KX):=by
   have:j=0\/j=1\/j=2:=ip
   grind
  obtain⟨nm,nG,Hq⟩:=PY;obtain⟨⟨e,n,R⟩,E⟩:∃X,fQ G d (Ak nm j)=X:=⟨_,rfl⟩;have hS:(⟨nm,[⟨⟨#[122]⟩,zc,false⟩],0,false⟩:rM)=Ak nm j:=by rw[Gh];rfl
  have D:=O.create hP ip aC Hq;rw[E]at D;have D:WR P (m+1) Q n R L:=D;have aA:nm.size<=2^40:=by rcases Hq with rfl|rfl|rfl<;>decide
  have Ni:∀x∈[(⟨⟨#[122]⟩,zc,false⟩:jR)],x.name.size<=2^40:=λx hx=>by rw[kXK.1 hx];show(1:Nat)<=2^40;decide
  obtain⟨C,fo⟩:∃C:(ByteArray×(Option Addr×Nat×Nat))->ad->Prop,∀g h',C g h'=(Le h h'/\g.1=nm/\Sl 202 bJ h' (.slice g.2.1 g.2.2.1 g.2.2.2) [⟨⟨#[122]⟩,zc,false⟩]):=⟨_,λ_ _=>rfl⟩;have Bx:∀B h',Le h h'->Sl 202 bJ h' (.slice (zsA B) 1 1) [⟨⟨#[122]⟩,zc,false⟩]->C (nm,(zsA B,1,1)) h':=λB h' l' s'=>gg
  cbv;repeat (rw[au A];cbv)
  refine kK.go (G:=ByteArray×(Option Addr×Nat×Nat)) (λ_=>[(19,.loc 19 0)]) (λg=>[(3,[.zI kk,.zI N,.zI a1,.zI a2,.zI a3,.zI a4,.bool ax,.slice pb pn pc]),(19,[.string g.1,.slice g.2.1 g.2.2.1 g.2.2.2,.zI 0,.bool false])]) C ?_ ?_
  .clear fo hk;cbv;refine⟨?_,?_⟩
   .skip;intro n8 b nI o;have l:Le h b:=zqs o nI
    have T:=gT (s:=ma) (h:=b) rfl (zqt o) (x:=tG) (y:=iY) (w:=KX) rfl rfl rfl;clear o;cbv;refine eP N 3 dl dl _ (λzi H f V zW=>?_);have V:H=j:=by rw[V,UZ]
    cbv;refine⟨⟨rfl,f.ix (len:=3) zW⟩,?_⟩;cbv;refine(T).load (by rw[V];exact nG) f.eq (λcs a=>?_);have a:cs=[.string nm]:=a;subst a;cbv;refine eP N 3 dl dl _ (λzj jj OE ZW ZV=>?_);have CW:=kI zj jj OE (by rw[ZW,UZ]);cbv;refine(T).load (by rw[V];exact nG) f.eq (λcs a=>?_);have a:cs=[.string nm]:=a;subst a;cbv;refine zqr ?_;cbv;rw[CW];intro B c mh K;have M:Le b c:=zqs K mh
    have sc:=bh (s:=bJ) (h:=c) (x:=⟨⟨#[122]⟩,zc,false⟩) (zqt K) rfl;clear K;cbv;refine(T.mono (M.t _)).load (by rw[V];exact nG) f.eq (λcs a=>?_);have a:cs=[.string nm]:=a;subst a;cbv;refine zqr ?_;cbv;have U:=Bx B _ (l.trans M) (sc);refine⟨(nm,(zsA B,1,1)),⟨?_,?_,?_⟩,U⟩<;>cbv
   skip;refine eP N 3 dl dl _ (λzi H f V zW=>?_);have V:H=j:=by rw[V,UZ]
   cbv;refine⟨?_,?_⟩
   .skip;intro n8 b nI o;have l:Le h b:=zqs o nI
    have T:=gT (s:=ma) (h:=b) rfl (zqt o) (x:=tG) (y:=iY) (w:=KX) rfl rfl rfl;clear o;cbv;refine⟨⟨rfl,f.ix (len:=3) zW⟩,?_⟩;cbv;refine(T).load (by rw[V];exact nG) f.eq (λcs a=>?_);have a:cs=[.string nm]:=a;subst a;cbv;refine eP N 3 dl dl _ (λzj jj OE ZW ZV=>?_);have CW:=kI zj jj OE (by rw[ZW,UZ]);cbv;refine(T).load (by rw[V];exact nG) f.eq (λcs a=>?_);have a:cs=[.string nm]:=a;subst a;cbv;refine zqr ?_;cbv;rw[CW];intro B c mh K;have M:Le b c:=zqs K mh
    have sc:=bh (s:=bJ) (h:=c) (x:=⟨⟨#[122]⟩,zc,false⟩) (zqt K) rfl;clear K;cbv;refine(T.mono (M.t _)).load (by rw[V];exact nG) f.eq (λcs a=>?_);have a:cs=[.string nm]:=a;subst a;cbv;refine zqr ?_;cbv;have U:=Bx B _ (l.trans M) (sc);refine⟨(nm,(zsA B,1,1)),⟨?_,?_,?_⟩,U⟩<;>cbv
   skip;refine eP N 3 dl dl _ (λzj jj OE ZW ZV=>?_);have CW:=kI zj jj OE (by rw[ZW,UZ]);cbv;refine⟨?_,?_⟩
   .skip;intro n8 b nI o;have l:Le h b:=zqs o nI
    have T:=gT (s:=ma) (h:=b) rfl (zqt o) (x:=tG) (y:=iY) (w:=KX) rfl rfl rfl;clear o;cbv;refine⟨⟨rfl,f.ix (len:=3) zW⟩,?_⟩;cbv;refine(T).load (by rw[V];exact nG) f.eq (λcs a=>?_);have a:cs=[.string nm]:=a;subst a;cbv;rw[CW];intro B c mh K;have M:Le b c:=zqs K mh
    have sc:=bh (s:=bJ) (h:=c) (x:=⟨⟨#[122]⟩,zc,false⟩) (zqt K) rfl;clear K;cbv;refine(T.mono (M.t _)).load (by rw[V];exact nG) f.eq (λcs a=>?_);have a:cs=[.string nm]:=a;subst a;cbv;refine zqr ?_;cbv;have U:=Bx B _ (l.trans M) (sc);refine⟨(nm,(zsA B,1,1)),⟨?_,?_,?_⟩,U⟩<;>cbv
   skip;rw[CW];intro B c mh K;have M:Le h c:=zqs K mh
   have sc:=bh (s:=bJ) (h:=c) (x:=⟨⟨#[122]⟩,zc,false⟩) (zqt K) rfl;clear K;cbv;intro n8 b nI o;have l:Le c b:=zqs o nI
   have T:=gT (s:=ma) (h:=b) rfl (zqt o) (x:=tG) (y:=iY) (w:=KX) rfl rfl rfl;clear o;cbv;refine⟨⟨rfl,f.ix (len:=3) zW⟩,?_⟩;cbv;refine(T).load (by rw[V];exact nG) f.eq (λcs a=>?_);have a:cs=[.string nm]:=a;subst a;cbv;have U:=Bx B _ (M.trans l) (sc.mono (l.t _));refine⟨(nm,(zsA B,1,1)),⟨?_,?_,?_⟩,U⟩<;>cbv
  intro g b U;rw[fo]at U;cbv;obtain⟨g1,sb,sn,sc⟩:=g;obtain⟨l,ui,qs⟩:=U;have ui:g1=nm:=ui;subst ui;have qs:Sl 202 bJ b (.slice sb sn sc) [⟨⟨#[122]⟩,zc,false⟩]:=qs;have Wr:sn=1:=qs.len;have J:=l _ _ gw;have S:=q.le l;have r1:=r.le l;clear fo Bx;repeat (first|rw[av A] | (refine cy J ?_;cbv)|(refine zqr ?_;cbv))
  refine KU S qs ip aA Ni sm n2 n3 n4 (λc x2 q2=>?_);rw[hS,E]at q2 |-;have q2:nT c s p n R L:=q2;have HP:=x2 _ _ J (λ_ _ _ F=>gg);have Y:=r1.lt (x2.t dl) (jU _);have aF:=qs.mono (x2.t dl);cbv;repeat (first|rw[av A] | (refine cy HP ?_;cbv)|(refine zqr ?_;cbv))
  refine Hk Y BZ tw.gi ZG ip aF ip n1 n3 n4 (λZ I r3=>?_);rw[hS,E]at r3 |-;have r3:sO nH Z t x n R L:=r3;have:=hk Z n R L ⟨I _ _ HP (λ_ _ _ F=>gg)⟩ (q2.lt (I.t dl)) r3 D;clear hk;cbv
  grind
 have PY:∃nm,[tG,fQJ,fXk][j]? =some nm/\nm≠iY/\nm.size<=4:=by
  have:j=0\/j=1\/j=2:=ip
  rcases this with rfl|rfl|rfl
  .exact⟨_,rfl,dl,dl⟩
  .exact⟨_,rfl,dl,dl⟩
  exact⟨_,rfl,dl,dl⟩
 obtain⟨nm,nG,UQ,aB⟩:=PY;obtain⟨⟨e,n,R⟩,E⟩:∃X,mj G d nm=X:=⟨_,rfl⟩;have D:=O.drop hP ip aB UQ;rw[E]at D;have D:WR P (m+1) Q n R L:=D;cbv;repeat (rw[au A];cbv)
 intro n8 b nI o;have l:Le h b:=zqs o nI
 have T:=gT (s:=ma) (h:=b) rfl (zqt o) (x:=tG) (y:=fQJ) (w:=fXk) rfl rfl rfl;clear o;cbv;refine eP N 3 dl dl _ (λzi H f V zW=>?_);have V:H=j:=by rw[V,UZ]
 cbv;refine⟨⟨rfl,f.ix (len:=3) zW⟩,?_⟩;cbv;refine(T).load (by rw[V];exact nG) f.eq (λcs a=>?_);have a:cs=[.string nm]:=a;subst a;cbv;have J:=l _ _ gw;have S:=q.le l;have r1:=r.le l;repeat (first|rw[av A] | (refine cy J ?_;cbv)|(refine zqr ?_;cbv))
 refine bJR S nm ip n2 n3 n4 (λc x2 q2=>?_);rw[E]at q2 |-;have q2:nT c s p n R L:=q2;have HP:=x2 _ _ J (λ_ _ _ F=>gg);have Y:=r1.lt (x2.t dl) (jU _);cbv;repeat (first|rw[av A] | (refine cy HP ?_;cbv)|(refine zqr ?_;cbv))
 refine aXF Y BZ tw.gi UW nm n1 n3 n4 (λZ I r3=>?_);rw[E]at r3 |-;have r3:sO nH Z t x n R L:=r3;have:=hk Z n R L ⟨I _ _ HP (λ_ _ _ F=>gg)⟩ (q2.lt (I.t dl)) r3 D;clear hk;cbv
 grind
theorem XG:eR 3=⟨ei.ao,[],[],[]⟩:=ur
def QT:List nV->Prop:=λ_=>True
theorem XF(q:BW G P 3)(b:3<=P):WR P 0 QT G ei lz:=by obtain⟨r,s,sl,I,R,h,a,-⟩:=q.out;exact⟨LN q b,⟨⟨r,s,sl,_,I,R,h.trans XG,a,pW.self Ir.sc.tw rfl rfl⟩,q.kn,trivial⟩,λ_ _ _=>trivial⟩
theorem WR.next(q:WR P m Q G d L):WR P (m+1) Q G d L:=⟨q.toWI.up,q.ri,q.up⟩
theorem Pk(c:pW B d)(o:SJ n d)(h:d.ai[0]? =some w):∃D,cA d w.s=D/\D.2=0/\(pW B D.1/\SJ n D.1)/\D.1.ai.length+1=d.ai.length:=by
 have r:=o.sc.mX w (kQR h);have s:-2^63<=w.s/\w.s<2^63:=ip
 obtain⟨a,b⟩:=JA o.sc.gi o.sc.mX h;have hl:=(HH.1 h).1;have e:=c.act o s .tz
 grind [Pd,cA,jo,tU,hl]
theorem bQT{xs:List DR}(q:Hz AM h0 (.slice b n c) xs)(ok:∀x∈xs,Ou x):Ct 8 [.slice b n c] h0 (λv h'=>Le h0 h'/\v=.bool true):=by
 obtain⟨A,hA⟩:=Ar.ex;have cY:=q.len;have OQ:A .not true=false:=by rw[hA.not];rfl
 have bc:A .not false=true:=by rw[hA.not];rfl
 have mW:A .aQ .neq 0 0=false:=by rw[aJ A];rfl
 have Nw:∀z:Int,A .aQ .eql z z=true:=λz=>by rw[au A];simp
 refine kh T8 A Tryz.func8 ?_;cbv;have z0:Fz h0 nH h0:=⟨jU _,λb o hb=>⟨hb,rfl⟩⟩;refine z0.Ei (Sf _ (k:=λv h'=>v=.bool true) (λh1 x1=>rfl)) (λv aA h1 H z1=>?_);subst H;have br:=q.mono z1.base;cbv;rw[OQ];cbv;refine fQt br (λbo xZ=>?_);cases bo with
 |false=>have:=z1.base;cbv;rw[bc];cbv;first|exact⟨this,rfl⟩ |exact⟨this,trivial⟩
 |true=>
  have dd:=xZ rfl;cbv;rw[OQ];cbv;refine z1.Ei (Tl (P:=120) ⟨rfl⟩ ip ip (k:=λv h'=>∃w p x s t G,v=.zP w/\Wl h' w p x s t/\nT h' s p G ei lz/\sO nH h' t x G ei lz/\BW G 120 3) (λh' w p x s t G a1 a2 a3 a4=>⟨w,p,x,s,t,G,rfl,a1,a2,a3,a4⟩)) (λv aB h2 H z2=>?_);obtain⟨w,p,x,s,t,G,rfl,w2,q2,r2,bw⟩:=H;have Y:WR 120 0 QT G ei lz:=XF bw ip;obtain⟨J,bH⟩:∃J:Nat->Int->ad->Prop,∀v z h',J v z h'=(∃i G d L aC,bg z i/\v=n-i/\i<=n/\Fz h0 aC h'/\Wl aC w p x s t/\nT aC s p G d L/\sO nH aC t x G d L/\WR 120 i QT G d L):=⟨_,λ_ _ _=>rfl⟩;have dP:J n 0 h2:=by rw[bH];exact⟨0,G,ei,lz,aB,⟨rfl⟩,rfl,ip,z2,w2,q2,r2,Y⟩
  cbv;refine ba.gz (G:=Int) (λz=>[(4,.v (.zI z))]) (λ_=>[]) (λv z h'=>J v z h') n 0 dP ?_
  intro v z h3 hI;rw[bH]at hI;cbv;obtain⟨i,G,d,L,aC,hz,H,fN,z3,w3,q3,r3,Y⟩:=hI;have aw:=q.mono z3.base;have V:A .aQ .lss z (A .nat n)=decide (i<n):=by rw[aV A,hz.eq,hA.nat];grind
  rw[V];by_cases Ku:i<n
  .obtain⟨y,hy⟩:=cK xs i;have jD:=ok y (kQR hy);have ix:=hz.ix Ku;have iK:b.isSome=true:=q.bu;have aZ:n-(i+1)<v:=ip
   have ly:=hz.succ (A:=A);have dI:=hz.eq;have gw:=w3.out;have cm:∀h' T N L' aD,Fz h0 aD h'->Wl aD w p x s t->nT aD s p T N L'->sO nH aD t x T N L'->WR 120 (i+1) QT T N L'->J (n-(i+1)) (A .aX .add .i64 z 1) h':=λh' T N L' aD f a h F b5=>by
    grind
   obtain⟨k1,k2,k3,k4,k5,k6,k7,pn⟩:=y;have Eb:-2^63<=k4/\k4<2^63:=jD.s;have bj:-2^63<=k6/\k6<2^63:=jD.n;rw[kS Ku];clear V bH dP;cbv;refine⟨⟨iK,ix⟩,?_⟩;cbv;refine aw.sJ hy dI (o:=0) (m:=1) dl (λcs Q _=>?_);obtain⟨pb,pc,Q⟩:=Q;have Q:cs=[.zI k1,.zI k2,.zI k3,.zI k4,.zI k5,.zI k6,.bool k7,.slice pb pn pc]:=Q;subst Q;cbv;refine eP k1 18 dl dl _ (λzk ik HE Ss Nd=>?_);have fg:A .aQ .geq zk 15=decide (15<=ik):=by rw[cF A,HE.eq];grind
   cbv;rw[fg];by_cases aq:15<=ik
   .rw[kS aq];have:=cm h3 G d L aC z3 w3 q3 r3 Y.next;clear cm;cbv;refine zqn (n-(i+1)) (A .aX .add .i64 z 1) aZ this
   rw[kQW aq];have Qe:(k1 % ((18:Nat):Int)).toNat<15:=gg
   clear fg;cbv;refine⟨⟨iK,ix⟩,?_⟩;cbv;refine aw.load hy dI (λcs Q=>?_);obtain⟨uE,uD,Q⟩:=Q;have Q:cs=[.zI k1,.zI k2,.zI k3,.zI k4,.zI k5,.zI k6,.bool k7,.slice uE pn uD]:=Q;subst Q;cbv;refine z3.Ei (eQn w3 q3 r3 Y ip ip ip Qe Eb bj (k:=λv h'=>v=.bool true/\∃T N L',Wl h' w p x s t/\nT h' s p T N L'/\sO nH h' t x T N L'/\WR 120 (i+1) QT T N L') (λh' T N L' f a h F=>⟨rfl,T,N,L',f,a,h,F⟩)) (λv aD h4 H z4=>?_);obtain⟨rfl,T,N,L',f,a,h,F⟩:=H;have:=cm h4 T N L' aD z4 f a h F;clear cm;cbv;refine zqn (n-(i+1)) (A .aX .add .i64 z 1) aZ this
  have vg:i=n:=ip
  obtain⟨rs,sd,sl,B,I,R,h1,Qx,c⟩:=Y.ri.out;have hf:=Y.g.fit;have cz:G.s<2^60:=ip
  have cE:G.n<2^60:=by obtain⟨di,I',hl⟩:=Y.g.log;rw[I'.n];omega
  have Vn:=z3.le _ _ w3.out;obtain⟨OD,OA,OC,IJ,MC,MF,Gb,Oz,OB,qw,Yr⟩:=q3.out;obtain⟨g,y,qs,ql,qk,qx⟩:=qw.out;have sj:=Y.sj;have Bt:L.dq.length<=2^20:=by have:=Y.zd.b;omega
  obtain⟨S,X,bs,ts⟩:=L;have Bt:bs.length<=2^20:=Bt;rw[kQW Ku];clear V bH dP qw Yr qs ql qx r3 hf;cbv;repeat (first|rw[av A] | (refine cy Vn ?_;cbv)|(refine zqr ?_;cbv))
  refine z3.Ei (cKh qk I ip cz cE R (k:=λv h'=>∃s2,v=.tuple #[.zP s2,.zI 0]/\nT h' s2 p G ⟨B,[],[],[]⟩ ⟨S,X,bs,ts⟩/\nT h' s p G d ⟨S,X,bs,ts⟩/\Wl h' w p x s t) (λh' s2 x4 q4=>⟨s2,rfl,gg,q3.lt (x4.t dl),w3.lt (x4.t dl)⟩)) (λv aE h4 H z4=>?_);obtain⟨s2,rfl,q4,q5,w4⟩:=H;have ax:=z4.le _ _ w4.out;clear qk q3 w3 z3 Vn Y I R h1 Qx;cbv;rw[mW];cbv;repeat (first|rw[av A] | (refine cy ax ?_;cbv)|(refine zqr ?_;cbv))
  refine z4.Ei (fZJ q5 (k:=λv h'=>∃f C j a e r h E u F O M,v=.agg #[.slice f C j,.slice a e r,.slice h E u,.slice F O M]/\Le aE h'/\fD h' (.agg #[.slice f C j,.slice a e r,.slice h E u,.slice F O M]) d) (λh' f C j a e r h E u F O M l qd=>⟨f,C,j,a,e,r,h,E,u,F,O,M,rfl,l,qd⟩)) (λv aF h5 H z5=>?_);obtain⟨f,C,j,a,e,r,h,E,u,F,O,M,rfl,l5,vK⟩:=H;have w5:Wl aF w p x s t:=⟨l5 _ _ w4.out⟩;have Wj:=q4.le l5;have cb:=q5.le l5;obtain⟨K,Qv⟩:∃K:Nat->G4->ad->Prop,∀v g h',K v g h'=(∃N Z,v=N.ai.length/\Fz h0 Z h'/\Wl Z w p x s t/\nT Z s2 p G ⟨B,[],[],[]⟩ ⟨S,X,bs,ts⟩/\nT Z s p G d ⟨S,X,bs,ts⟩/\fD Z (.agg #[.slice g.b1 g.n1 g.c1,.slice g.b2 g.n2 g.c2,.slice g.b3 g.n3 g.c3,.slice g.b4 g.n4 g.c4]) N/\pW B N/\SJ i N):=⟨_,λ_ _ _=>rfl⟩;have Ll:K d.ai.length ⟨f,C,j,a,e,r,h,E,u,F,O,M⟩ h5:=gg
  clear q4 q5 w4 z4 ax w5 Wj cb vK z5;cbv;refine ba.gz (G:=G4) (λg=>[]) (λg=>[(7,[.slice g.b1 g.n1 g.c1,.slice g.b2 g.n2 g.c2,.slice g.b3 g.n3 g.c3,.slice g.b4 g.n4 g.c4])]) (λv g h'=>K v g h') d.ai.length ⟨f,C,j,a,e,r,h,E,u,F,O,M⟩ Ll ?_
  intro v g h6 hK;rw[Qv]at hK;cbv;obtain⟨N,Z,H,z6,w6,q6,q7,Ox,c6,an⟩:=hK;obtain⟨f,C,j,a,e,r,h,E,u,F,O,M⟩:=g;have Ox:fD Z (.agg #[.slice f C j,.slice a e r,.slice h E u,.slice F O M]) N:=Ox;obtain⟨t1,⟨ws,t2,tm⟩,t3,t4⟩:=Ox.Ps;have fA:e=N.ai.length:=by rw[t2.len,<-tm,kZl]
  have V:A .aQ .gtr (A .nat e) 0=decide (0<e):=by rw[bF A,hA.nat];grind
  rw[V];by_cases ag:0<e
  .obtain⟨⟨⟨az,cx,cw⟩,fl⟩,hw⟩:=ay (xs:=ws) (i:=0) gg;have Kk:N.ai[0]? =some ⟨az,cx,cw⟩:=gg
   obtain⟨D,hD,r2,r3,r4⟩:=Pk c6 an Kk;have r2:D.2=0:=r2;obtain⟨d2,e2⟩:=D;have r2:e2=0:=r2;subst r2;have r3:pW B d2/\SJ i d2:=r3;have r4:d2.ai.length+1=N.ai.length:=r4;have jD:=an.RX;have cq:=(⟨rfl⟩:bg 0 0).ix (len:=e) ag;have iK:a.isSome=true:=t2.bu ag;have aZ:d2.ai.length<v:=ip
   have Ht:∀h' U f C j a e r h E u F O M,Fz h0 U h'->Wl U w p x s t->nT U s2 p G ⟨B,[],[],[]⟩ ⟨S,X,bs,ts⟩->nT U s p G d ⟨S,X,bs,ts⟩->fD U (.agg #[.slice f C j,.slice a e r,.slice h E u,.slice F O M]) d2->K d2.ai.length ⟨f,C,j,a,e,r,h,E,u,F,O,M⟩ h':=λh' U f C j a e r h E u F O M y1 y2 y3 y4 y5=>by
    grind
   have cv:=t2.mono (z6.le.t _);rw[kS ag];clear V Qv Ll;cbv;refine⟨⟨iK,cq⟩,?_⟩;cbv;refine cv.cI hw rfl (o:=0) (m:=1) dl (λcs Q=>?_);obtain⟨u1,u2,u3,u4,u5,u6,Q,-⟩:=Q;subst Q;cbv;refine z6.Ei (wu Ox jD ip az hD (k:=λv h'=>∃f C j a e r h E u F O M,v=.tuple #[.agg #[.slice f C j,.slice a e r,.slice h E u,.slice F O M],.zI 0]/\Le Z h'/\fD h' (.agg #[.slice f C j,.slice a e r,.slice h E u,.slice F O M]) d2) (λh' f C j a e r h E u F O M l qd=>⟨f,C,j,a,e,r,h,E,u,F,O,M,rfl,l,qd⟩)) (λv U h7 H z7=>?_);obtain⟨e1,m1,V,e2,m2,f2,e3,m3,f3,e4,m4,f4,rfl,W,ak⟩:=H;have zV:m2=d2.ai.length:=by obtain⟨-,⟨al,t2,tm⟩,-,-⟩:=ak.Ps;rw[t2.len,<-tm,kZl]
   have cG:A .aQ .geq (A .nat m2) (A .nat e)=false:=by rw[cF A,hA.nat];grind
   have:=Ht h7 U e1 m1 V e2 m2 f2 e3 m3 f3 e4 m4 f4 z7 ⟨W _ _ w6.out⟩ (q6.le W) (q7.le W) ak;clear Ht;cbv;rw[mW];cbv;rw[cG];cbv;refine zqn d2.ai.length ⟨e1,m1,V,e2,m2,f2,e3,m3,f3,e4,m4,f4⟩ aZ this
  have ab:N.ai=[]:=kZh ip;have hT:=c6.idle ab;have hH:=an.sc.cQr ab;have aW:=c6.Pv ab;have vB:ws=[]:=List.map_eq_nil_iff.1 (tm.trans ab);rw[hT]at t1;rw[hH]at t3;rw[aW]at t4;subst vB;have de:=z6.le _ _ w6.out;rw[kQW ag];clear V Qv Ll;cbv;refine z6.Ei (fZJ q6 (k:=λv h'=>∃f C j a e r h E u F O M,v=.agg #[.slice f C j,.slice a e r,.slice h E u,.slice F O M]/\Le Z h'/\fD h' (.agg #[.slice f C j,.slice a e r,.slice h E u,.slice F O M]) ⟨B,[],[],[]⟩) (λh' f C j a e r h E u F O M l qd=>⟨f,C,j,a,e,r,h,E,u,F,O,M,rfl,l,qd⟩)) (λv U h7 H z7=>?_);obtain⟨e1,m1,V,e2,m2,f2,e3,m3,f3,e4,m4,f4,rfl,W,ak⟩:=H;obtain⟨y1,⟨al,y2,ym⟩,y3,y4⟩:=ak.Ps;have ym:al.map (·.1)=[]:=ym;have:al=[]:=List.map_eq_nil_iff.1 ym;subst this;have w7:Wl U w p x s t:=⟨W _ _ w6.out⟩;have bV:=q6.le W;have cn:=q7.le W;have t1:=t1.mono (W.t _);have t2:=t2.mono (W.t _);have t3:=t3.mono (W.t _);have t4:=t4.mono (W.t _);cbv;repeat (refine zqr ?_;cbv)
  refine z7.Ei (bKy y1 y2 y3 y4 t1 t2 t3 t4 (k:=λv h'=>v=.bool true/\Le U h') (λh' l=>⟨rfl,l⟩)) (λv aI h8 H z8=>?_);obtain⟨rfl,l8⟩:=H;have w8:Wl aI w p x s t:=⟨l8 _ _ w7.out⟩;have cp:=bV.le l8;have ch:=cn.le l8;have bY:=z8.le _ _ w8.out;cbv;repeat (first|rw[av A] | (refine cy bY ?_;cbv)|(refine zqr ?_;cbv))
  refine z8.Ei (ET cp (k:=λv h'=>∃f C j a e r h E u,v=.agg #[.zI S,.slice f C j,.slice a e r,.slice h E u]/\Le aI h'/\vr h' f C j a e r h E u ⟨S,X,bs,ts⟩) (λh' f C j a e r h E u l ql=>⟨f,C,j,a,e,r,h,E,u,rfl,l,ql⟩)) (λv aK h9 H z9=>?_);obtain⟨u1,v1,x1,u2,v2,x2,u3,v3,x3,rfl,l9,bx⟩:=H;have w9:Wl aK w p x s t:=⟨l9 _ _ w8.out⟩;have cd:=ch.le l9;have cL:=z9.le _ _ w9.out;cbv;repeat (first|rw[av A] | (refine cy cL ?_;cbv)|(refine zqr ?_;cbv))
  refine z9.Ei (ER bx Bt (k:=λv h'=>∃fK me fU,v=.agg #[.zI S,.slice u1 v1 x1,.slice fK me fU,.slice u3 v3 x3]/\Le aK h'/\yR h' u1 v1 x1 fK me fU u3 v3 x3 ⟨S,X,bs,ts⟩) (λh' fK me fU l ql=>⟨fK,me,fU,rfl,l,ql⟩)) (λv aL iE H ao=>?_);obtain⟨i2,o2,j2,rfl,gD,bd⟩:=H;have bk:Wl aL w p x s t:=⟨gD _ _ w9.out⟩;have bR:=cd.le gD;have ca:=ao.le _ _ bk.out;cbv;repeat (first|rw[av A] | (refine cy ca ?_;cbv)|(refine zqr ?_;cbv))
  refine ao.Ei (ET bR (k:=λv h'=>∃f C j a e r h E u,v=.agg #[.zI S,.slice f C j,.slice a e r,.slice h E u]/\Le aL h'/\vr h' f C j a e r h E u ⟨S,X,bs,ts⟩) (λh' f C j a e r h E u l ql=>⟨f,C,j,a,e,r,h,E,u,rfl,l,ql⟩)) (λv aM oV H bl=>?_);obtain⟨i1,o1,j1,i4,o4,j4,i5,o5,j5,rfl,An,bz⟩:=H;have Ov:=bd.ls (An.t _);cbv;refine bl.Ei (ER bz Bt (k:=λv h'=>∃fK me fU,v=.agg #[.zI S,.slice i1 o1 j1,.slice fK me fU,.slice i5 o5 j5]/\Le aM h'/\yR h' i1 o1 j1 fK me fU i5 o5 j5 ⟨S,X,bs,ts⟩) (λh' fK me fU l ql=>⟨fK,me,fU,rfl,l,ql⟩)) (λv aN tM H ct=>?_);obtain⟨i6,o6,j6,rfl,fk,bn⟩:=H;have Ov:=Ov.ls (fk.t _);cbv;refine ct.Ei (aXv Ov bn (k:=λv h'=>v=.bool true) rfl) (λv aO dc H cr=>?_);subst H;have hb:=cr.base;cbv;first|exact⟨hb,rfl⟩ |exact⟨hb,trivial⟩
end Go.S
