import Derived.Test.YtifjeceolckgaaaGreatQE
set_option linter.all false
set_option maxRecDepth 100000
set_option maxHeartbeats 8000000
namespace Go.S
open Go.Sx Go.Proofs
variable {d:DB}{s z:Int}{L:List Int}{cols:List cK}{c c1 c2 n n1 n2 p pb tb wb:Nat}{b b1 b2:Option Addr}{r:Row}{k:Value->ad->Prop}{st:aJ}{h:ad}
theorem aJR(q:Sl 3 dE h (.slice b n c) L)(x:Int):
 Ct 235 [.slice b n c,.int .i64 x] h (λv h'=>h'=h/\∃z,v=.int .i64 z/\decide (0<=z)=decide (x∈L)):=by
 have m:=q.len;have M:=q.bound;refine mQx lZi Tryz.func235 λA s=>?_;cbv;refine aX.go (G:=Int) (λg=>[(8,.v (.int .i64 g))]) (λ_=>[])
  (λk g h'=>∃i:Nat,aS g i/\k=n-i/\i<=n/\h'=h/\x∉L.take i) n 0 ⟨?_,?_,?_⟩ ⟨0,⟨rfl⟩,by omega,by omega,rfl,by simp⟩ ?_
 .cbv
 .cbv
 .cbv
 intro k z h' I;cbv;obtain⟨i,a,w,t,rfl,P⟩:=I;refine bh (λd=>?_) (λd=>?_)
 .have p:=a.lt d;clear d;cbv;obtain⟨y,j⟩:=mQA L i;refine⟨⟨q.aT,a.ix p⟩,?_⟩;cbv;refine q.load j a.eq (λcs e=>?_);have e:cs=[.int .i64 y]:=e;subst e;have r:A .aI .eql x y=decide (x=y):=aA A ..;cbv;rw[r];cases l:decide (x=y)with
  |true=>cbv;refine⟨_,rfl,?_⟩;have u:=mQL l;rw[mQu (show 0<=z by have:=a.eq;omega),mQu (u ▸ mQz j)]
  |false=>
   have Z:=a.succ (A:=A);have Q:x∉L.take (i+1):=λo=>by
    rw[mXt,j]at o;rcases mQE.1 o with f|f
    .exact P f
    exact mQO l (by simpa using f)
   cbv;refine⟨n-(i+1),A .bB .add .i64 z 1,by omega,by constructor<;>cbv,i+1,Z,rfl,by omega,rfl,Q⟩
 have N:=a.ge d;clear d;cbv;refine⟨_,rfl,?_⟩;rw[mXa (by omega)]at P;rw[mQv P];rfl
theorem QN(q:Sl 3 dE h (.slice b n c) L)(x:Int)(a:∀t,t=decide (x∈L)->k (.bool t) h):
 Ct 153 [.slice b n c,.int .i64 x] h k:=by
 refine mQx gXG Tryz.func153 λA j=>?_;cbv;refine(aJR q x).mono (λv i hR=>?_);obtain⟨e,z,d,g⟩:=hR;subst e d;have f:=a _ (show A .aI .geq z 0=_ by rw[cf A];exact g);clear a;cbv;exact f
theorem CS{s:ByteArray}:∀ {cols:List cK} {k:Nat},(∀x∈cols,decide (x.name=s)=false)->jR cols s k=none
 | [],_,_=>by rw[jR]
 |c::r,k,h=>by
  rw[jR,if_neg (mQO (h c mXn))];exact CS λx hx=>h x (mXm _ hx)
theorem CQ{s:ByteArray}:∀ {cols:List cK} {k i:Nat} {x:cK},cols[i]? =some x->decide (x.name=s)=true->(∀j,j<i->∀y,cols[j]? =some y->decide (y.name=s)=false)->jR cols s k=some (k+i)
 | [],_,_,_,h,_,_=>by simp at h
 |c::r,k,0,x,h,hx,_=>by
  have:c=x:=by simpa using h
  rw[jR,if_pos (by rw[this];exact mQL hx)];rfl
 |c::r,k,i+1,x,h,hx,l=>by
  rw[jR,if_neg (mQO (l 0 (by omega) c rfl)),CQ (i:=i) (by simpa using h) hx (λj b y a=>l (j+1) (by omega) y (by simpa using a))];congr 1;omega
theorem bQx{s:ByteArray}(h:vg cols (λx=>decide (x.name=s)) z):pQ cols s=(max z 0,decide (z>=0)):=by
 unfold pQ;rcases h.out with⟨e,a⟩|⟨i,x,f,b,c,d⟩
 .rw[CS a,e];rfl
 rw[CQ b c d];have:=f.eq;show(((0+i:Nat):Int),true)=_;rw[mQu (by omega),Int.max_eq_left (by omega),this];congr 1;omega
theorem cKY(q:Sl 155 bI h (.slice b n c) cols){nm s:ByteArray}{key:Int}{only:Bool}(d:∀h' z t,Le h h'->(z,t)=pQ cols s->k (.tuple #[.int .i64 z,.bool t]) h'):
 Ct 76 [.agg #[.string nm,.slice b n c,.int .i64 key,.bool only],.string s] h k:=
 (bQy q).mono (λv h' hR=>by
  obtain⟨l,z,t,g,f,i,e,a⟩:=hR;rw[f];exact d h' z t l (by rw[bQx i,e,a]))
theorem QD{s:ByteArray}(h:pQ cols s=(z,true)):0<=z/\z<cols.length:=by
 have key:∀(cols:List cK) (k i:Nat),jR cols s k=some i->k<=i/\i<k+cols.length:=λcols=>by
  induction cols with
  |nil=>intro k i h;rw[jR]at h;cases h
  |cons c r a=>
   intro k i h;rw[jR]at h;split at h
   .cases h;simp only[mQM];omega
   have:=a _ _ h;simp only[mQM];omega
 unfold pQ at h;cases f:jR cols s 0 with
 |none=>rw[f]at h;cases h
 |some i=>rw[f]at h;have:=key cols 0 i f;cases h;omega
structure cJh(B h:ad)(ob:Nat)(l:List Int):Prop where
 out:∃b n c,h ob=some (.cells #[.slice b n c] 229 (0,0))/\cF 3 dE B h (.slice b n c) l
 le:Le B h
 no:B ob=none
theorem vB(cols:List cK)(nm:ByteArray)(r:List ByteArray)(l:List Int):mg cols (nm::r) l=match pQ cols nm with
 | (k,is)=>if is=false then(l,2)else if k∈l then(l,7)else mg cols r (l++[k]):=rfl
theorem eQm{B:ad}{o:Nat}{l:List Int}(E:cJh B h o l)(hl:l.length<=2^30){O:Nat}{T:cW}{F:Option Addr}{M G:Nat}{Q:Option Addr}{r S:Nat}(gt:B O=some (.cells #[.string T.S.name,.slice F M G,.int .i64 T.S.key,.bool T.S.only,.slice Q r S] 51 (0,0)))(qc:Sl 155 bI B (.slice F M G) T.S.cols)(nm:ByteArray){i:Int}{is:Bool}(I:pQ T.S.cols nm=(i,is))
  (a:∀h' L,cJh B h' o L->L=(if is=false then l else if i∈l then l else l++[i])->k (.int .i64 (if is=false then 2 else if i∈l then 7 else 0)) h'):
 Ct 152 [.string nm,.pointer (some ⟨O,0,none⟩),.pointer (some ⟨o,0,none⟩)] h k:=by
 have q:=E.le;have x:=E.no;obtain⟨b,n,c,go,u⟩:=E.out;have JD:=u.sl.len;have v:=q _ _ gt;refine mQx gXH Tryz.func152 λA hA=>?_;cbv;repeat (first|((try rw[ai A]);(try rw[ai A]);refine mQw v ?_;cbv)|(refine⟨⟨_,rfl,rfl⟩,?_⟩;cbv))
 refine cKY (qc.mono (q.t _)) (λp z t d J=>?_);rw[I]at J;obtain⟨rfl,rfl⟩:z=i/\t=is:=by cases J;exact⟨rfl,rfl⟩
 clear I;have X:cJh B p o l:=⟨⟨b,n,c,d _ _ go,u.mono (d.t _)⟩,q.trans d,x⟩;have V:A .not t= !t:=by rw[hA.not]
 cases t with
 |false=>have f:=a p l X rfl;rw[if_pos rfl]at f;clear a;cbv;rw[V];cbv;exact f
 |true=>
  simp only[mZD,if_false]at a;cbv;rw[V];cbv;have K:=d _ _ go;repeat (first|((try rw[ai A]);(try rw[ai A]);refine mQw K ?_;cbv)|(refine⟨⟨_,rfl,rfl⟩,?_⟩;cbv))
  refine QN (u.sl.mono (d.t _)) z (λt g=>?_);by_cases m:z∈l
  .have g:t=true:=by rw[g];exact mQu m
   subst g;have f:=a p l X (by rw[if_pos m]);rw[if_pos m]at f;clear a;cbv;exact f
  have g:t=false:=by rw[g];exact mQv m
  subst g;simp only[if_neg m]at a;cbv;repeat (first|((try rw[ai A]);(try rw[ai A]);refine mQw K ?_;cbv)|(refine⟨⟨_,rfl,rfl⟩,?_⟩;cbv))
  intro r H Z w;have C:Le p H:=by rw[w];exact Le.set Z
  have P:Sl 3 dE H (.slice (some ⟨r,0,none⟩) 1 1) [z]:=bA (s:=dE) ((congrFun w r).trans ae) rfl;have y:=C _ _ K;clear w;cbv;refine(u.mono ((d.trans C).t _)).append P (by decide) rfl (by decide) (by omega) (q.trans (d.trans C)) (λm3 R W h3 Y l3 N k3 ry=>?_);have U:h3 o=some (.cells #[.slice b n c] 229 (0,0)):=N [229] (by decide) _ _ _ _ (mQH.2 rfl) y;clear N k3 P;cbv;refine ja U (by simp) (λh4 j=>?_);have f:=a h4 (l++[z]) ⟨⟨R,m3,W,by rw[j];exact ae,ry.mono (by rw[j];exact bR.set U (by decide))⟩,λb' o' D=>by rw[j,aO (λe=>by rw[e,x]at D;cases D)];exact l3 _ _ D,x⟩ rfl;clear a j;cbv;exact f
theorem Hu:∀ {names:List ByteArray} {l:List Int},(∀k∈l,0<=k/\k<cols.length)->∀k∈(mg cols names l).1,0<=k/\k<cols.length
 | [],l,h=>h
 |nm::r,l,h=>by
  rw[vB];cases f:pQ cols nm with
  |mk k is=>
   show ∀x∈(if is=false then(l,2)else if k∈l then(l,7)else mg cols r (l++[k]):List Int×Int).1,_;split
   .exact h
   split
   .exact h
   rename_i a b;have a:is=true:=by cases is<;>simp at a |-
   subst a;refine Hu λx hx=>?_;rcases mQE.1 hx with hx|hx
   .exact h x hx
   rw[mQH.1 hx];exact QD f
theorem EO{cols:List cK}:∀ {names:List ByteArray} {l:List Int},(mg cols names l).1.length<=l.length+names.length
 | [],l=>mQD _
 |nm::r,l=>by
  rw[vB];cases h:pQ cols nm with
  |mk k is=>
   show(if is=false then(l,2)else if k∈l then(l,7)else mg cols r (l++[k]):List Int×Int).1.length<=_;split
   .show l.length<=_;omega
   split
   .show l.length<=_;omega
   have:=EO (cols:=cols) (names:=r) (l:=l++[k]);simp only[mQy,mQM,mQS]at this |-;omega
theorem Pv(cols m:List cK)(x:List Nd)(k:Int)(r:List (List Nd×Int)):mE cols m ((x,k)::r)=if ku x cols (zG m k)≠0 then ku x cols (zG m k)else mE cols m r:=rfl
theorem aJT(a b:Nat):((min a b:Nat):Int)=min (a:Int) (b:Int):=by omega
theorem bQp(q:fM h pb d s st)(hx:dr st){T:cW}(hT:bXU T)(wO:Sl 155 bI h (.slice b1 n1 c1) T.S.cols)
  (u:∀h',Le h h'->k (.int .i64 (mR T st)) h'):Ct 71 [.pointer (some ⟨pb,0,none⟩),.agg #[.string T.S.name,.slice b1 n1 c1,.int .i64 T.S.key,.bool T.S.only,.slice b2 n2 c2]] h k:=by
 have ab:∀c∈aR T,Nm c.name:=λc CG=>by
  obtain⟨c0,C,r⟩:=mQW.1 CG;rw[<-r];exact ri hT.nm (hT.Bt c0 C)
 have t:mR T st=match mg T.S.cols st.names []with
  | (p,e)=>if e≠0 then e else if mE (aR T) T.S.cols (st.exprs.zip p)≠0 then mE (aR T) T.S.cols (st.exprs.zip p)else aU st.bV (aR T):=rfl
 generalize mR T st=D at *;refine q.elim (λca bw cl bF bt ck bz br cj bx bo ch Xh VD WZ Xg VC WY Xf Rv WX UC Ny NS Xe VB WW Dp BX Dm g qd q1 q2 q3 q4 q5 q6=>?_);clear q1 q2 q5 qd;refine mQx jKl Tryz.func71 λA hA=>?_;cbv;intro tb C f1 e1;have l1:Le h C:=by rw[e1];exact Le.set f1
 have Qr:C tb=some (.cells #[.string T.S.name,.slice b1 n1 c1,.int .i64 T.S.key,.bool T.S.only,.slice b2 n2 c2] 51 (0,0)):=by rw[e1];exact ae
 clear e1;cbv;repeat (first|((try rw[ai A]);(try rw[ai A]);refine mQw Qr ?_;cbv)|(refine⟨⟨_,rfl,rfl⟩,?_⟩;cbv))
 refine me hT.nm.nm (λc hh=>(hT.Bt c hh).nm) (wO.mono (l1.t _)) T.S.key T.S.only b2 n2 c2 (λr cb cn cc l2 qb=>?_);rw[<-mT]at qb;cbv;intro Q E f3 e3;have l3:Le r E:=by rw[e3];exact Le.set f3
 have Uk:E Q=some (.cells #[.slice none 0 0] 229 (0,0)):=by rw[e3];exact ae
 have lB:Le r (Sx.eF E Q):=λb o hb=>by
  rw[Sx.cY (λe=>by rw[e,f3]at hb;cases hb)];exact l3 _ _ hb
 clear e3;obtain⟨B,hB⟩:∃B,B=Sx.eF E Q:=⟨_,rfl⟩;rw[<-hB]at lB;have aj:Le B E:=by rw[hB];exact Sx.fY E Q
 have aZ:B Q=none:=by rw[hB];exact Sx.dP E Q
 have jZ:=l1.trans l2;have uM:Le h B:=jZ.trans lB;have g3:=(uM.trans aj) _ _ g;have aw:=lB _ _ (l2 _ _ Qr);have qC:=q3.len;have Al:=hx.dZG;obtain⟨P,y⟩:∃P,mg T.S.cols st.names []=P:=⟨_,rfl⟩;rw[y]at t;have R:=Hu (cols:=T.S.cols) (names:=st.names) (l:=[]) (λk u=>by cases u);have aV:=EO (cols:=T.S.cols) (names:=st.names) (l:=[]);rw[y]at R aV;obtain⟨I,Y⟩:∃I:Nat->ad->Prop,∀i h',I i h'=∃l,cJh B h' Q l/\l.length<=i/\mg T.S.cols (st.names.drop i) l=P:=⟨_,λ_ _=>rfl⟩;have hJ:I 0 E:=by rw[Y];exact⟨[],⟨⟨none,0,0,Uk,cF.nil⟩,aj,aZ⟩,mQD _,y⟩
 clear hB y;cbv;repeat (first|((try rw[ai A]);(try rw[ai A]);refine mQw g3 ?_;cbv)|(refine⟨⟨_,rfl,rfl⟩,?_⟩;cbv))
 refine mJK qC I hJ (λi h' w=>?_) (λi nm h' hi Jd w _=>?_) (λh' w=>?_)
 .rw[Y]at w;obtain⟨l,L,-⟩:=w;exact q3.mono ((uM.trans L.le).t _)
 .rw[Y]at w;obtain⟨l,L,tW,a⟩:=w;have hd:st.names.drop i=nm::st.names.drop (i+1):=by obtain⟨C,r⟩:=mQB.1 Jd;rw[mQJ C,r]
  rw[hd,vB]at a;cases hf:pQ T.S.cols nm with
  |mk n is=>
   rw[hf]at a;replace a:(if is=false then(l,2)else if n∈l then(l,7)else mg T.S.cols (st.names.drop (i+1)) (l++[n]))=P:=a;refine eQm L (by omega) aw (wO.mono (uM.t _)) nm hf (λh4 l' SA TI=>⟨_,rfl,λh0=>?_,λh0=>?_⟩)
   .by_cases W:is=false
    .rw[if_pos W]at h0;cases h0
    rw[if_neg W]at h0 a TI;by_cases H:n∈l
    .rw[if_pos H]at h0;cases h0
    rw[if_neg H]at a TI;rw[Y];refine⟨l',SA,?_,by rw[TI];exact a⟩;rw[TI,mQy,mQG];omega
   have bn:P.2=(if is=false then 2 else if n∈l then 7 else 0):=by
    by_cases W:is=false
    .rw[if_pos W]at a |-;rw[<-a]
    rw[if_neg W]at a h0 |-;by_cases H:n∈l
    .rw[if_pos H]at a |-;rw[<-a]
    rw[if_neg H]at h0;exact absurd rfl h0
   rw[<-bn]at h0 |-;obtain⟨p,pe⟩:=P;replace h0:pe≠0:=h0;replace t:D=if pe≠0 then pe else if mE (aR T) T.S.cols (st.exprs.zip p)≠0 then mE (aR T) T.S.cols (st.exprs.zip p)else aU st.bV (aR T):=t
   rw[if_pos h0]at t;subst t;have N:=u h4 (uM.trans SA.le);have fe:A .aI .neq D 0=true:=by rw[aC A];exact mQu h0
   clear u Y hJ;cbv;rw[fe];cbv;exact N
 rw[Y]at w;obtain⟨p,L,tW,a⟩:=w;rw[mQT (by omega)]at a;replace a:(p,0)=P:=a;subst a;replace t:D=if mE (aR T) T.S.cols (st.exprs.zip p)≠0 then mE (aR T) T.S.cols (st.exprs.zip p)else aU st.bV (aR T):=t
 replace R:∀k∈p,0<=k/\k<T.S.cols.length:=R;replace R:∀k∈p,∃j,aS k j/\j<T.S.cols.length:=λk u=>⟨k.toNat,⟨by have:=R k u;omega⟩,by have:=R k u;omega⟩;obtain⟨ib,S,ic,gi,qi⟩:=L.out;have qi:=qi.sl;have bj:=qi.len;have Z:=uM.trans L.le;have g':=Z _ _ g;have bk:=L.le _ _ aw;have aK:=q4.mono (Z.t _);have Hr:=q6.mono (Z.t _);have bc:=wO.mono (Z.t _);have ag:=qb.sl.mono ((lB.trans L.le).t _);have Qh:=q4.len;have RL:=wO.len;have cm:=hx.len;have bd:=hx.exprs;have cp:=q4.bound;have um:A .aI .neq 0 0=false:=by rw[aC A];rfl
 obtain⟨m,H⟩:∃m,A .pM (A .nat Ny) (A .nat S)=m:=⟨_,rfl⟩;have FH:aS m (min Ny S):=⟨by rw[<-H,hA.pM,hA.nat];exact(aJT Ny S).symm⟩;obtain⟨M,az⟩:∃M,M=min Ny S:=⟨_,rfl⟩;rw[<-az]at FH;have cJ:0<=m/\m<=(NS:Int):=by have:=FH.eq;omega
 have bb:=fh (A:=A) FH;obtain⟨cB,aH⟩:∃cB,A .cut UC 0 (A .nat NS) 1=cB:=⟨_,rfl⟩;have PD:Sl 42 jM h' (.slice cB M NS) (st.exprs.take M):=by rw[<-aH];exact Sl.Vp (aK.sU (A:=A) (z:=A .nat NS) (i:=M) (by omega) rfl rfl) (by omega)
 obtain⟨K,f⟩:∃K,mE (aR T) T.S.cols (st.exprs.zip p)=K:=⟨_,rfl⟩;rw[f]at t;have Fz:(st.exprs.zip p).length=M:=by rw[mJy,az,<-Qh,<-bj]
 obtain⟨J,dY⟩:∃J:Nat->Int->ad->Prop,∀V z r,J V z r=∃i,aS z i/\i<=M/\V=M-i/\Le h' r/\mE (aR T) T.S.cols ((st.exprs.zip p).drop i)=K:=⟨_,λ_ _ _=>rfl⟩;have MX:J M 0 h':=by rw[dY];exact⟨0,⟨rfl⟩,mQC _,rfl,Le.refl _,f⟩
 clear Y hJ f;cbv;rw[um];cbv;repeat (first|(rw[ai A,ai A];refine mQw g' ?_;cbv)|(rw[ai A];refine mQw g' ?_;cbv)|(refine mQw g' ?_;cbv)|(rw[ai A,ai A];refine mQw gi ?_;cbv)|(rw[ai A];refine mQw gi ?_;cbv)|(refine mQw gi ?_;cbv)|(refine⟨⟨_,rfl,rfl⟩,?_⟩;cbv))
 rw[H];refine⟨cJ,?_⟩;cbv;rw[bb,aH];refine aX.go (G:=Int) (λz=>[(39,.v (.int .i64 z))]) (λ_=>[]) (λV z r=>J V z r) M 0 (by constructor<;>cbv) MX ?_
 intro V z h4 w;rw[dY]at w;cbv;obtain⟨i,hz,hi,sf,v,f⟩:=w;have f1:A .aI .lss z (A .nat M)=decide (i<M):=hz.iJ (aS.nat M);rw[f1];by_cases X:i<M
 .obtain⟨⟨x,n⟩,VX⟩:=mQA (st.exprs.zip p) i;obtain⟨MI,KC⟩:=mJc.1 VX;replace MI:st.exprs[i]? =some x:=MI;replace KC:p[i]? =some n:=KC;have ba:(st.exprs.take M)[i]? =some x:=by rw[mXl,if_pos X];exact MI
  obtain⟨PX,au,tX⟩:=R n (mQz KC);obtain⟨tc,ak⟩:=mQA T.S.cols PX;have MP:=au.eq;have jo:0<=z/\z<(M:Int):=hz.ix X;have sK:0<=z/\z<(S:Int):=hz.ix (by omega);have TZ:0<=n/\n<(n1:Int):=au.ix (by omega);have cN:=hz.eq;have cZ:=hz.succ (A:=A);have kX:M-(i+1)<V:=by omega
  have TY:zG T.S.cols n=tc.kind:=by
   have:n.toNat=PX:=by rw[MP];exact mXH PX
   unfold zG;rw[this,ak]
  have Bc:(st.exprs.zip p).drop i=(x,n)::(st.exprs.zip p).drop (i+1):=by obtain⟨C,r⟩:=mQB.1 VX;rw[mQJ C,r]
  rw[Bc,Pv,TY]at f;have jL:∀F,Le h' F->mE (aR T) T.S.cols ((st.exprs.zip p).drop (i+1))=K->J (M-(i+1)) (A .bB .add .i64 z 1) F:=λF U KO=>by
   rw[dY];exact⟨i+1,cZ,X,rfl,U,KO⟩
  have aW:=bd x (mQz MI);have ar:=PD.mono (v.t _);have al:=qi.mono (v.t _);have an:=bc.mono (v.t _);have bf:=v _ _ gi;have Zg:=v _ _ bk;have jE:=ar.aT (by omega:0<M);have FD:=al.aT (by omega:0<S);have bg:=an.aT (by omega:0<n1);clear dY MX cZ;rw[mQu X];cbv;refine⟨⟨jE,jo⟩,?_⟩;cbv;refine bZ ar ba cN (λxb xn xc qx=>?_);cbv;repeat (first|((try rw[ai A]);(try rw[ai A]);(first|refine mQw Zg ?_|refine mQw bf ?_);cbv)|(refine⟨⟨_,rfl,rfl⟩,?_⟩;cbv))
  refine⟨⟨FD,sK⟩,?_⟩;cbv;refine al.load KC cN (λcs O=>?_);have O:cs=[.int .i64 n]:=O;subst O;cbv;refine⟨⟨bg,TZ⟩,?_⟩;cbv;refine an.cC ak MP (o:=1) (m:=1) (by decide) (λcs O=>?_);obtain⟨Bt,Ln,WT⟩:=tc;have O:cs=[.string Bt,.int .i64 Ln,.bool WT]:=O;subst O;replace f:(if ku x (aR T) Ln≠0 then ku x (aR T) Ln else mE (aR T) T.S.cols ((st.exprs.zip p).drop (i+1)))=K:=f;cbv;refine My aW ab Ln qx (ag.mono (v.t _)) (λF e U a=>?_);rw[<-a]at f;have fe:A .aI .neq e 0=decide (e≠0):=aC A ..;cbv;rw[fe];by_cases h0:e≠0
  .rw[if_pos h0]at f;rw[<-f,if_pos h0]at t;subst t;have N:=u F (Z.trans (v.trans U));clear u jL;rw[mQu h0];cbv;exact N
  rw[if_neg h0]at f;have N:=jL F (v.trans U) f;clear u jL;rw[mQv h0];cbv;refine⟨M-(i+1),A .bB .add .i64 z 1,kX,by constructor<;>cbv,N⟩
 rw[mQT (by omega)]at f;replace f:0=K:=f;rw[<-f,if_neg (λg=>g rfl)]at t;have g4:=v _ _ g';clear dY MX;rw[mQv X];cbv;repeat (first|((try rw[ai A]);(try rw[ai A]);refine mQw g4 ?_;cbv)|(refine⟨⟨_,rfl,rfl⟩,?_⟩;cbv))
 refine rW hx.bV ab (Hr.mono (v.t _)) (ag.mono (v.t _)) (λF e U a=>?_);rw[<-t]at a;subst a;have N:=u F (Z.trans (v.trans U));clear u;cbv;exact N
theorem GZ(cols:List cK)(v:cO)(nm:ByteArray)(l:List (cO×ByteArray))(r:Row):Aa cols ((v,nm)::l) r=Aa cols l (r.set (pQ cols nm).1.toNat v):=rfl
theorem OE:∀ {l:List (cO×ByteArray)} {r:Row},(∀p∈l,kM p.1)->fS r->fS (Aa cols l r)
 | [],r,_,h=>h
 | (v,nm)::l,r,a,h=>by
  rw[GZ];refine OE (λp b=>a p (mXm _ b)) λx hx=>?_;rcases mXz hx with hx|hx
  .exact h x hx
  rw[hx];exact a _ mXn
theorem Oc{xs:List (List Nd)}{l:Row}{e:Int}(h:bS xs cols r=(l,e)):l.length=xs.length\/l=[]:=by
 have key:∀ {xs:List (List Nd)} {m l:Row} {e:Int},pF cols r xs m=(l,e)->l.length=m.length+xs.length\/l=[]:=by
  intro xs;induction xs with
  |nil=>intro m l e h;cases h;exact .inl rfl
  |cons x xs i=>
   intro m l e h;rw[rB]at h;generalize eP x cols r=p at h;obtain⟨v,f⟩:=p;have h:(if f≠0 then([],f)else pF cols r xs (m++[v]))=(l,e):=h;by_cases a:f≠0
   .rw[if_pos a]at h;cases h;exact .inr rfl
   rw[if_neg a]at h;rcases i h with g|g
   .left;simp at g |-;omega
   exact .inr g
 have:=key (m:=[]) h;simpa using this
theorem eJx(q:fM h pb d s st)(hx:dr st)(FJ:st.kind=4){kb:Nat}(gw:h wb=some (.cells #[.pointer (some ⟨pb,0,none⟩)] 89 (0,0)))
 {T:cW} (B:bXU T) {cb:Option Addr} {cn cc:Nat} (gk:h kb=some (.cells #[.slice cb cn cc] 38 (0,0))) (PY:Sl 155 bI h (.slice cb cn cc) (aR T))     (gt:h tb=some (.cells #[.string T.S.name,.slice b1 n1 c1,.int .i64 T.S.key,.bool T.S.only,.slice b2 n2 c2] 51 (0,0))) (wO:Sl 155 bI h (.slice b1 n1 c1) T.S.cols)
  (U:r∈T.rows) {rb:Option Addr} {N rc:Nat} (qr:Sl 86 bq h (.slice rb N rc) r):
 Ct 74 [.slice rb N rc,.pointer (some ⟨wb,0,none⟩),.pointer (some ⟨kb,0,none⟩),.pointer (some ⟨tb,0,none⟩)] h (λv kY=>∃b n c,v=.tuple #[.slice b n c,.int .i64 (oY T st r).2]/\Le h kY/\Sl 86 bq kY (.slice b n c) (oY T st r).1):=by
 have ag:∀c∈aR T,Nm c.name:=λc CG=>by
  obtain⟨c0,o,f⟩:=mQW.1 CG;rw[<-f];exact ri B.nm (B.Bt c0 o)
 have W:r.length=2:=by obtain⟨_,_,e,-⟩:=(B.row r U).1;rw[e];rfl
 have RL:T.S.cols.length=2:=by
  rcases B.cols with h| ⟨-,h⟩
  .rw[h];rfl
  rw[h]at U;cases U
 have E:∀nm z t,(z,t)=pQ T.S.cols nm->∃j,aS z j/\j<2:=λnm z t h=>by
  cases t with
  |true=>have:=QD h.symm;exact⟨z.toNat,⟨by omega⟩,by omega⟩
  |false=>
   unfold pQ at h;cases hf:jR T.S.cols nm 0 with
   |none=>rw[hf]at h;cases h;exact⟨0,⟨rfl⟩,by decide⟩
   |some i=>rw[hf]at h;cases h
 have P:oY T st r=match bS st.exprs (aR T) r with
  | (l,e)=>(Aa T.S.cols (l.zip st.names) r,e):=rfl
 generalize oY T st r=D at *;have an:=(B.row r U).2;have wD:=hx.names FJ;have Al:=hx.dZG;refine q.elim (λba aK bf aZ aH bd aW az bc aV aw bb Xh VD WZ Xg VC WY Xf Rv WX UC Ny NS Xe VB WW Dp BX Dm g qd q1 q2 q3 q4 q5 q6=>?_);clear q1 q2 q5 q6 qd;have qC:=q3.len;refine mQx jKi Tryz.func74 λA hA=>?_;cbv;repeat (first|((try rw[ai A]);(try rw[ai A]);(first|refine mQw gw ?_|refine mQw gk ?_|refine mQw g ?_);cbv)|(refine⟨⟨_,rfl,rfl⟩,?_⟩;cbv))
 refine FX hx.exprs ag an hx.len q4 PY qr (λo lb a lc l e l1 Je p bn=>?_);have Q:=Oc Je.symm;rw[<-Je]at P;replace P:D=(Aa T.S.cols (l.zip st.names) r,e):=P;have p:=p.sl;have tW:=p.len;have tG:l.length<=st.names.length:=by
  rcases Q with h|h
  .omega
  rw[h];exact mQC _
 cbv;refine(mU (qr.mono (l1.t _))).mono (λv f hR=>?_);obtain⟨l2,b',c',hv,qb⟩:=hR;subst hv;rcases qb.out with⟨b0,o,f⟩|⟨k,cap,ge,gn,M⟩
 .rw[f]at W;cases W
 have KH:N=2:=by rw[qr.len];exact W
 obtain⟨rfl,Zb⟩:b'=some ⟨k,0,none⟩/\cap=c':=by cases ge;exact⟨rfl,rfl⟩
 subst Zb;have jZ:=l1.trans l2;obtain⟨Fr,F⟩:∃Fr,Aa T.S.cols (l.zip st.names) r=Fr:=⟨_,rfl⟩;rw[F]at P;have au:h k=none:=l1.none gn;have bj:(l.zip st.names).length=a:=by rw[mJy,tW];omega
 obtain⟨I,Y⟩:∃I:Nat->Int->ad->Prop,∀m z h',I m z h'=∃i R,aS z i/\i<=a/\m=a-i/\Kp [k] f h'/\fX 86 bq h' k cap R/\R.length=2/\Aa T.S.cols ((l.zip st.names).drop i) R=Fr:=⟨_,λ_ _ _=>rfl⟩;have hJ:I a 0 f:=by rw[Y];exact⟨0,r,⟨rfl⟩,mQC _,rfl,Kp.refl _ _,M,W,F⟩
 have bk:=p.mono (l2.t _);have bg:=p.bound;have J:∀h',Kp [k] f h'->Le h h':=λh' k2=>jZ.dJ (λb hb=>by rw[mQH.1 hb];exact au) k2;have O:∀h',Kp [k] f h'->Le o h':=λh' k2=>l2.dJ (λb hb=>by rw[mQH.1 hb];exact gn) k2;clear M qb ge F Je Q;cbv;refine aX.go (G:=Int) (λz=>[(29,.v (.int .i64 z))]) (λ_=>[]) (λm z h'=>I m z h') a 0 (by constructor<;>cbv) hJ ?_
 intro m z u hI;rw[Y]at hI;cbv;obtain⟨i,R,C,hi,hm,V,M,ak,F⟩:=hI;have f1:A .aI .lss z (A .nat a)=decide (i<a):=C.iJ (aS.nat a);rw[f1];by_cases S:i<a
 .obtain⟨⟨v,nm⟩,L⟩:=mQA (l.zip st.names) i;obtain⟨MI,KC⟩:=mJc.1 L;replace MI:l[i]? =some v:=MI;replace KC:st.names[i]? =some nm:=KC;have cJ:0<=z/\z<(a:Int):=C.ix S;have jo:0<=z/\z<(Rv:Int):=C.ix (by omega);have cN:=C.eq;have cZ:=C.succ (A:=A);have kX:a-(i+1)<m:=by omega
  have Bc:(l.zip st.names).drop i=(v,nm)::(l.zip st.names).drop (i+1):=by obtain⟨o,f⟩:=mQB.1 L;rw[mQJ o,f]
  rw[Bc,GZ]at F;have Z:=J u V;have K:=p.mono ((O u V).t _);have H:=q3.mono (Z.t _);have g3:=Z _ _ g;have Bf:=Z _ _ gw;have aj:=Z _ _ gt;have jE:=K.aT (by omega:0<a);have FD:=H.aT (by omega:0<Rv);have E:=E nm;have cD:∀w j,Kp [k] u w->fX 86 bq w k cap (R.set j v)->(pQ T.S.cols nm).1.toNat=j->I (a-(i+1)) (A .bB .add .i64 z 1) w:=λw j k4 o4 hj=>by
   rw[Y];exact⟨i+1,R.set j v,cZ,S,rfl,V.trans k4,o4,by rw[mXv];exact ak,by rw[<-hj];exact F⟩
  clear Y hJ cZ J O;rw[mQu S];cbv;refine⟨⟨jE,cJ⟩,?_⟩;cbv;refine K.load MI cN (λcs y=>?_);replace y:cs=[.int .i64 v.k,.int .i64 v.n,.string v.s]:=y;subst y;cbv;repeat (first|((try rw[ai A]);(try rw[ai A]);(first|refine mQw aj ?_|refine mQw Bf ?_|refine mQw g3 ?_);cbv)|(refine⟨⟨_,rfl,rfl⟩,?_⟩;cbv))
  refine⟨⟨FD,jo⟩,?_⟩;cbv;refine H.load KC cN (λcs y=>?_);replace y:cs=[.string nm]:=y;subst y;cbv;refine cKY (wO.mono (Z.t _)) (λw zf t l4 X=>?_);obtain⟨j,Rz,KP⟩:=E zf t X;have ar:(pQ T.S.cols nm).1.toNat=j:=by rw[<-X,Rz.eq];exact mXH j
  have sK:0<=zf/\zf<(N:Int):=Rz.ix (by omega);have ab:=Rz.eq;cbv;refine⟨⟨rfl,sK⟩,?_⟩;cbv;refine(M.mono (l4.t _)).setAt (by decide) (i:=j) (by omega) ab rfl (x:=v) rfl (λh5 k5 t5 o5=>?_);have af:=cD h5 j ((l4.kp _).trans k5) o5 ar;clear cD;cbv;refine⟨a-(i+1),A .bB .add .i64 z 1,kX,by constructor<;>cbv,af⟩
 rw[mQT (by omega)]at F;replace F:R=Fr:=F;subst F;subst P;have Z:=J u V;have al:Sl 86 bq u (.slice (some ⟨k,0,none⟩) N cap) R:=M.sl (by omega);clear Y hJ;rw[mQv S];cbv;exact⟨_,_,_,rfl,Z,al⟩
theorem Dk{w:List Nd}{f:Row->Row×Int}:∀ {rows:List Row} {xs ys:List Row},∀x∈(eN w cols f rows (xs,ys)).1.2,x∈ys\/∃r∈rows,x=(f r).1
 | [],xs,ys,x,h=>.inl h
 |r::rs,xs,ys,x,h=>by
  rw[oa]at h;have s:∀x∈(je w cols f r xs ys).1.2,x∈ys\/∃d∈r::rs,x=(f d).1:=λx hx=>by
   unfold je at hx;generalize dt w cols r=H at hx;obtain⟨is,e⟩:=H;have hx:x∈(if e≠0 then((xs,ys),e)else if is=false then((xs,ys),0)else((xs++[r],ys++[(f r).1]),(f r).2):(List Row×List Row)×Int).1.2:=hx;split at hx
   .exact .inl hx
   split at hx
   .exact .inl hx
   rcases mQE.1 hx with hx|hx
   .exact .inl hx
   rcases mQI.1 hx with hx|hx
   .exact .inr ⟨r,mXn,hx⟩
   cases hx
  by_cases c:(je w cols f r xs ys).2≠0
  .rw[if_pos c]at h;exact s x h
  rw[if_neg c]at h;generalize je w cols f r xs ys=E at *;obtain⟨⟨a,b⟩,e⟩:=E;rcases Dk x h with h| ⟨d,g,i⟩
  .exact s x h
  exact .inr ⟨d,mXm _ g,i⟩
theorem UX{nm:ByteArray}(f:-2^63<=s/\s<2^63):∀ {rows:List Row} {n:Nat} {d:DB},(∀r∈rows,fK r)->EJ n d->EJ (n+rows.length) (iZ s nm rows d).1
 | [],n,d,_,h=>h
 |x::r,n,d,c,h=>by
  have b:=h.take nm f (c x mXn);show EJ _ (CV (λd r=>iz d s nm (mD d nm r)) (x::r) d).1;rw[Bh];generalize iz d s nm (mD d nm x)=H at *;obtain⟨a,e⟩:=H;show EJ _ (if e≠0 then(a,e)else iZ s nm r a).1;by_cases h0:e≠0
  .rw[if_pos h0];exact EJ.le b (by simp only[mQM];omega)
  rw[if_neg h0];exact(UX f (λy g=>c y (mXm _ g)) b).le (by simp only[mQM];omega)
theorem dZh{nm:ByteArray}(f:-2^63<=s/\s<2^63):∀ {rows:List Row} {n:Nat} {d:DB},(∀r∈rows,fS r)->EJ n d->EJ (n+rows.length) (uH s nm rows d).1
 | [],n,d,_,h=>h
 |x::r,n,d,c,h=>by
  have b:=h.put nm f (c x mXn);show EJ _ (CV (λd r=>fF d s nm r) (x::r) d).1;rw[Bh];generalize fF d s nm x=H at *;obtain⟨a,e⟩:=H;show EJ _ (if e≠0 then(a,e)else uH s nm r a).1;by_cases h0:e≠0
  .rw[if_pos h0];exact EJ.le b (by simp only[mQM];omega)
  rw[if_neg h0];exact(dZh f (λy g=>c y (mXm _ g)) b).le (by simp only[mQM];omega)
theorem eKt(q:fM h p d s st)(A:EJ n d){rows:List Row}(G:∀r∈rows,fS r)(P:n+rows.length+2<2^18)(o:-2^63<=s/\s<2^63){w:Option Addr}{z y:Nat}(v:Sl 84 aD h (.slice w z y) rows)
 {D:DB×Int} (C:uH s st.table rows d=D)  (m:∀h',Kp [p] h h'->fM h' p D.1 s st->k (.int .i64 D.2) h'):
 Ct 77 [.slice w z y,.func (.func 79) #[.pointer (some ⟨p,0,none⟩)] #[]] h k:=by
 have F:=v.len;obtain⟨I,Y⟩:∃I:Nat->ad->Prop,∀i h',I i h'=∃b,fM h' p b s st/\EJ (n+i) b/\Kp [p] h h'/\uH s st.table (rows.drop i) b=D:=⟨_,λ_ _=>rfl⟩;have J:I 0 h:=by rw[Y];exact⟨d,q,A,Kp.refl _ _,C⟩
 refine mXU F I J (λi h' f=>?_) (λi x h' K O L N hx f H=>?_) (λh' f=>?_)
 .rw[Y]at f;obtain⟨b,j,U,kp,-⟩:=f;exact v.mono (q.kp kp (by decide))
 .rw[Y]at f;obtain⟨b,j,U,kp,a⟩:=f;have hd:rows.drop i=x::rows.drop (i+1):=by obtain⟨B,l⟩:=mQB.1 hx;rw[mQJ B,l]
  have M:=G x (mQz hx);rw[hd]at a;replace a:(match fF b s st.table x with
   | (c,e)=>if e≠0 then(c,e)else uH s st.table (rows.drop (i+1)) c)=D:=a
  have Q:=U.put st.table o M;refine hJm j U.sj.Ko (by omega) o H (λl t u=>⟨_,rfl,λh0=>?_,λh0=>?_⟩)
  .generalize fF b s st.table x=E at *;obtain⟨c,e⟩:=E;replace a:(if e≠0 then(c,e)else uH s st.table (rows.drop (i+1)) c)=D:=a;rw[if_neg (λg=>g h0)]at a;rw[Y];exact⟨c,u,Q,kp.trans t,a⟩
  generalize fF b s st.table x=E at *;obtain⟨c,e⟩:=E;replace a:(if e≠0 then(c,e)else uH s st.table (rows.drop (i+1)) c)=D:=a;rw[if_pos h0]at a;subst a;exact m l (kp.trans t) u
 rw[Y]at f;obtain⟨b,j,U,kp,a⟩:=f;rw[mQT (by omega)]at a;have a:(b,0)=D:=a;subst a;exact m h' kp j
def wq(d:DB)(s:Int)(x:aJ)(T:cW):DB×Int:=
 if mR T x≠0 then(d,mR T x)else match eN x.bV (aR T) (oY T x) T.rows ([],[])with
  | (p,e)=>if e≠0 then(d,e)else match iZ s x.table p.1 d with
   | (d,e)=>if e≠0 then(d,e)else uH s x.table p.2 d
theorem Zi{T:cW}(hx:dr st)(k:fS r):fS (oY T st r).1:=by
 unfold oY;generalize b:bS st.exprs (aR T) r=p;obtain⟨l,e⟩:=p;show fS (Aa T.S.cols (l.zip st.names) r);refine OE (λp g=>?_) k;have a:p.1∈l:=(List.of_mem_zip g).1;have key:∀ {xs:List (List Nd)} {m l:Row} {e:Int},(∀ex∈xs,∀n∈ex,kM n.v)->(∀v∈m,kM v)->pF (aR T) r xs m=(l,e)->∀v∈l,kM v:=by
  intro xs;induction xs with
  |nil=>intro m l e _ a h;cases h;exact a
  |cons x xs o=>
   intro m l e d a h;rw[rB]at h;cases g:eP x (aR T) r with
   |mk v f=>
   rw[g]at h;have h:(if f≠0 then([],f)else pF (aR T) r xs (m++[v]))=(l,e):=h;by_cases j:f≠0
   .rw[if_pos j]at h;cases h;exact λv b=>by cases b
   rw[if_neg j]at h;refine o (λex i=>d ex (mXm _ i)) (λw c=>?_) h;rcases mQE.1 c with c|c
   .exact a w c
   rw[mQH.1 c];exact zM (d x mXn) k g
 exact key (λex i n d=>(hx.exprs ex i n d).2) (λv b=>by cases b) b p.1 a
def bXT(d:DB)(s:Int)(st:aJ)(T:cW):Prop:=∀ {h:ad} {pb:Nat} (q:fM h pb d s st) (hx:dr st) (FJ:st.kind=4) {n:Nat} (ej:EJ n d) (qC:n+600<2^18) (jx:-2^63<=s/\s<2^63) {wb tb:Nat} (gw:h wb=some (.cells #[.pointer (some ⟨pb,0,none⟩)] 89 (0,0)))
 (hT:bXU T) {b1:Option Addr} {n1 c1:Nat} {b2:Option Addr} {n2 c2:Nat} (gt:h tb=some (.cells #[.string T.S.name,.slice b1 n1 c1,.int .i64 T.S.key,.bool T.S.only,.slice b2 n2 c2] 51 (0,0))) (wO:Sl 155 bI h (.slice b1 n1 c1) T.S.cols) (Jp:Sl 84 aD h (.slice b2 n2 c2) T.rows)
 {k:Value->ad->Prop} (hk:∀h',Kp [pb] h h'->fM h' pb (wq d s st T).1 s st->k (.int .i64 (wq d s st T).2) h'),
 Ct 70 [.pointer (some ⟨wb,0,none⟩),.pointer (some ⟨tb,0,none⟩)] h k
theorem eJw{B:Nat}(q:fM h B d s st)(hx:dr st)(FJ:st.kind=4)(ej:EJ n d)(qC:n+600<2^18)(jx:-2^63<=s/\s<2^63)(O:h wb=some (.cells #[.pointer (some ⟨B,0,none⟩)] 89 (0,0)))
 {T:cW} (i:bXU T)     (gt:h tb=some (.cells #[.string T.S.name,.slice b1 n1 c1,.int .i64 T.S.key,.bool T.S.only,.slice b2 n2 c2] 51 (0,0))) (Y:Sl 155 bI h (.slice b1 n1 c1) T.S.cols) (Jp:Sl 84 aD h (.slice b2 n2 c2) T.rows)
  (j:∀h',Kp [B] h h'->fM h' B (wq d s st T).1 s st->k (.int .i64 (wq d s st T).2) h'):
 Ct 70 [.pointer (some ⟨wb,0,none⟩),.pointer (some ⟨tb,0,none⟩)] h k:=by
 have u:wq d s st T=if mR T st≠0 then(d,mR T st)else match eN st.bV (aR T) (oY T st) T.rows ([],[])with
  | (p,e)=>if e≠0 then(d,e)else match iZ s st.table p.1 d with
   | (d,e)=>if e≠0 then(d,e)else uH s st.table p.2 d:=rfl
 generalize wq d s st T=D at *;have nw:wb≠B:=λe=>by
  obtain⟨c,hc⟩:=q.has;rw[e,hc]at O;cases O
 refine mQx jKm Tryz.func70 λA hA=>?_;cbv;repeat (first|((try rw[ai A]);(try rw[ai A]);(first|refine mQw O ?_|refine mQw gt ?_);cbv)|(refine⟨⟨_,rfl,rfl⟩,?_⟩;cbv))
 refine bQp q hx i Y (λP F=>?_);generalize mR T st=e at *;have fe:A .aI .neq e 0=decide (e≠0):=aC A ..;have aj:=q.mono F;have sq:=F _ _ O;have Qr:=F _ _ gt;by_cases h0:e≠0
 .rw[if_pos h0]at u;subst u;have m:=j P (F.kp _) aj;clear j;cbv;rw[fe,mQu h0];cbv;exact m
 rw[if_neg h0]at u;cbv;rw[fe,mQv h0];cbv;repeat (first|((try rw[ai A]);(try rw[ai A]);refine mQw Qr ?_;cbv)|(refine⟨⟨_,rfl,rfl⟩,?_⟩;cbv))
 refine me i.nm.nm (λc hh=>(i.Bt c hh).nm) (Y.mono (F.t _)) T.S.key T.S.only b2 n2 c2 (λa cb cn cc l2 qb=>?_);rw[<-mT]at qb;cbv;intro kb Z f3 v;have ay:Le a Z:=by rw[v];exact Le.set f3
 have aH:Z kb=some (.cells #[.slice none 0 0] 38 (0,0)):=by rw[v];exact ae
 clear v;cbv;refine ja aH (by simp) (λh3 v=>?_);have l3:Le a h3:=λb o hb=>by rw[v,aO (λe=>by rw[e,f3]at hb;cases hb)];exact ay _ _ hb
 have ag:h3 kb=some (.cells #[.slice cb cn cc] 38 (0,0)):=by rw[v];exact ae
 have L:=F.trans (l2.trans l3);have t:=q.mono L;have Bf:=L _ _ O;have H:=L _ _ gt;have az:=qb.sl.mono (l3.t _);clear v qb;cbv;repeat (first|((try rw[ai A]);(try rw[ai A]);(first|refine mQw Bf ?_|refine mQw H ?_);cbv)|(refine⟨⟨_,rfl,rfl⟩,?_⟩;cbv))
 obtain⟨S,C⟩:∃S,S=eN st.bV (aR T) (oY T st) T.rows ([],[]):=⟨_,rfl⟩;have W:∀x∈S.1.1,fK x:=λx G=>by
  rw[C]at G;rcases yv x G with h|h
  .cases h
  exact(i.row x h).1
 have z:∀x∈S.1.2,fS x:=λx G=>by
  rw[C]at G;rcases Dk x G with h| ⟨r,P,a⟩
  .cases h
  rw[a];exact Zi hx (i.row r P).2
 have R:S.1.1.length<=200/\S.1.2.length<=200:=by rw[C];have P:=(yw (w:=st.bV) (cols:=aR T) (f:=oY T st) (rows:=T.rows) (xs:=[]) (ys:=[]));have a:=i.len;simp only[mQS]at P;omega
 rw[<-C]at u;refine cZe t hx i.nm i.Bt (λr hr=>(i.row r hr).2) (by have:=i.len;omega) (Y.mono (L.t _)) (Jp.mono (L.t _)) (f:=oY T st) (λh' r rb rn rc l hr aw=>eJx (t.mono l) hx FJ (l _ _ Bf) i (l _ _ ag) (az.mono (l.t _)) (l _ _ H) (Y.mono ((L.trans l).t _)) hr aw) C (λh4 ak al ab au an ar l4 s1 s2=>?_);obtain⟨⟨xs,ys⟩,I⟩:=S;replace s1:Sl 84 aD h4 (.slice ak al ab) xs:=s1;replace s2:Sl 84 aD h4 (.slice au an ar) ys:=s2;replace u:D=if I≠0 then(d,I)else match iZ s st.table xs d with
  | (d,e)=>if e≠0 then(d,e)else uH s st.table ys d:=u
 replace W:∀x∈xs,fK x:=W;replace z:∀x∈ys,fS x:=z;obtain⟨aP,aK⟩:xs.length<=200/\ys.length<=200:=R;have Q:A .aI .eql I 0=decide (I=0):=aA A ..;have J:=t.mono l4;have Ji:=l4 _ _ Bf;have N:=(L.trans l4).kp [B];clear C;by_cases a:I=0
 .rw[if_neg (λg=>g a)]at u;cbv;rw[Q,mQu a];cbv;repeat (first|((try rw[ai A]);(try rw[ai A]);refine mQw Ji ?_;cbv)|(refine⟨⟨_,rfl,rfl⟩,?_⟩;cbv))
  have y:=UX (nm:=st.table) jx W ej;refine aXw J ej W (by omega) jx s1 (D:=iZ s st.table xs d) rfl (λh5 k5 X=>?_);generalize iZ s st.table xs d=E at *;obtain⟨V,M⟩:=E;replace X:fM h5 B V s st:=X;replace y:EJ (n+xs.length) V:=y;replace u:D=if M≠0 then(V,M)else uH s st.table ys V:=u
  have U:A .aI .eql M 0=decide (M=0):=aA A ..;have As:=k5 _ _ Ji (by simpa using nw);have Yb:=s2.mono (J.kp k5 (by decide));have VT:=N.trans k5;by_cases K:M=0
  .rw[if_neg (λg=>g K)]at u;cbv;rw[U,mQu K];cbv;repeat (first|((try rw[ai A]);(try rw[ai A]);refine mQw As ?_;cbv)|(refine⟨⟨_,rfl,rfl⟩,?_⟩;cbv))
   refine eKt X y z (by omega) jx Yb u.symm (λh6 k6 q6=>?_);have m:=j h6 (VT.trans k6) q6;clear j;cbv;exact m
  rw[if_pos K]at u;subst u;have m:=j h5 VT X;clear j;cbv;rw[U,mQv K];cbv;exact m
 rw[if_pos a]at u;subst u;have m:=j h4 N J;clear j;cbv;rw[Q,mQv a];cbv;rw[Q,mQv a];cbv;exact m
theorem eJt(q:fM h p d s st)(hx:dr st)(FJ:st.kind=4)(ej:EJ n d)(jm:n+700<2^18)(jx:-2^63<=s/\s<2^63)(N:∀a T,(aL d ⟨s,st.table,true⟩).1=a->cI a st.table=T->bXT a s st T)
 (l:∀h',Kp [p] h h'->fM h' p (kj d s st).1 s st->k (.tuple #[.slice none 0 0,.int .i64 (kj d s st).2.2]) h'):
 Ct 27 [.pointer (some ⟨p,0,none⟩)] h k:=by
 have P:kj d s st=match aL d ⟨s,st.table,true⟩with
  | (d,e)=>if e≠0 then(d,[],e)else if(cI d st.table).S.only=true then(d,[],19)else cP d (wq d s st (cI d st.table)):=rfl
 generalize kj d s st=D at *;have W:=ej.hold ⟨s,st.table,true⟩ jx;obtain⟨c,hp⟩:=q.has;refine q.elim (λb1 n1 c1 b2 n2 c2 b3 n3 c3 b4 n4 c4 b5 n5 c5 b6 n6 c6 b7 n7 c7 b8 n8 c8 b9 n9 c9 gW jD gT g qd q1 m L q4 z q6=>?_);clear q1 m L q4 z q6;refine mQx jKS Tryz.func27 λA hA=>?_;cbv;intro wb h1 gn e1;have l1:Le h h1:=by rw[e1];exact Le.set gn
 have sq:h1 wb=some (.cells #[.pointer (some ⟨p,0,none⟩)] 89 (0,0)):=by rw[e1];exact ae
 have nw:wb≠p:=λe=>by rw[e,hp]at gn;cases gn
 have g1:=l1 _ _ g;clear e1;cbv;refine mQw sq ?_;cbv;refine mQw sq ?_;cbv;first|rw[ai A,ai A] |rw[ai A] |skip
 refine mQw g1 ?_;cbv;refine UP (q.mono l1) ej.sj.Ko (by omega) st.table true (λF k2 m=>?_);generalize aL d ⟨s,st.table,true⟩=H at *;obtain⟨a,e⟩:=H;replace m:fM F p a s st:=m;replace W:EJ (n+1) a:=W;replace P:D=if e≠0 then(a,[],e)else if(cI a st.table).S.only=true then(a,[],19)else cP a (wq a s st (cI a st.table)):=P
 have fe:A .aI .neq e 0=decide (e≠0):=aC A ..;have Z:Kp [p] h F:=(l1.kp _).trans k2;have rz:=k2 _ _ sq (by simpa using nw);by_cases h0:e≠0
 .rw[if_pos h0]at P;subst P;have v:=l F Z m;clear l;cbv;rw[fe,mQu h0];cbv;exact v
 rw[if_neg h0]at P;have RN:=W.held st.table;refine m.elim (λaK aw aY aH au aW az ar aV ay an aP Xh VD WZ Xg VC WY Xf Rv WX UC Ny NS Xe VB WW Dp BX Dm g2 aj q1 ak L q4 z q6=>?_);clear q1 ak L q4 z q6 aj;cbv;rw[fe,mQv h0];cbv;refine mQw rz ?_;cbv;refine mQw rz ?_;cbv;first|rw[ai A,ai A] |rw[ai A] |skip
 refine mQw g2 ?_;cbv;refine⟨?_,?_⟩
 .refine EZ m st.table (λT t1 u1 w1 t2 u2 w2 J s1 s2=>?_);rw[<-J]at RN P;replace N:bXT a s st T:=N a T rfl J.symm;clear J;cbv;intro t O x C;have R:Le F O:=by rw[C];exact Le.set x
  have Zg:O t=some (.cells #[.string ⟨#[]⟩,.slice none 0 0,.int .i64 0,.bool false,.slice none 0 0] 51 (0,0)):=by rw[C];exact ae
  obtain⟨G,rfl⟩:∃G,G=F:=⟨_,rfl⟩;have g3:=g2;have Bf:=rz;have Px:=Z;have L:=m;clear C;cbv;refine ja Zg (by simp) (λj w=>?_);have i:j t=some (.cells #[.string T.S.name,.slice t1 u1 w1,.int .i64 T.S.key,.bool T.S.only,.slice t2 u2 w2] 51 (0,0)):=by rw[w];exact ae
  have M:Le G j:=λb o K=>by rw[w,aO (λe=>by rw[e,x]at K;cases K)];exact R _ _ K
  have JC:t≠p:=λe=>by rw[e,g3]at x;cases x
  clear w;obtain⟨X,B⟩:∃b,b=T.S.only:=⟨_,rfl⟩;have Q:=i;rw[<-B]at Q;cbv;rw[ai A,ai A];refine mQw Q ?_;cbv;have S:=M _ _ Bf;have V:=Px.trans (M.kp [p]);have z:=L.mono M;cases X with
  |true=>rw[<-B,if_pos rfl]at P;subst P;have v:=l j V z;clear l;cbv;exact v
  |false=>rw[<-B,if_neg (by simp)]at P;have ig:∀f,Le j f->fM f p a s st->Ct 70 [.pointer (some ⟨wb,0,none⟩),.pointer (some ⟨t,0,none⟩)] f (λr I=>r=.int .i64 (wq a s st T).2/\Kp [p] f I/\fM I p (wq a s st T).1 s st):=λf y u=>N u hx FJ W (by omega) jx (y _ _ S) RN (y _ _ i) (s1.mono ((M.trans y).t _)) (s2.mono ((M.trans y).t _)) (λI k7 q7=>⟨rfl,k7,q7⟩);generalize wq a s st T=E at *;cbv;refine mQw S ?_;cbv;refine NY z ig (λf k6 u=>?_);rw[<-P]at u |-;have v:=l f (V.trans k6) u;clear l ig;generalize D.2.2=De at *;cbv;exact v
 intro t O x C;have R:Le F O:=by rw[C];exact Le.set x
 have Zg:O t=some (.cells #[.string ⟨#[]⟩,.slice none 0 0,.int .i64 0,.bool false,.slice none 0 0] 51 (0,0)):=by rw[C];exact ae
 obtain⟨G,rfl⟩:∃G,G=F:=⟨_,rfl⟩;have g3:=g2;have Bf:=rz;have Px:=Z;have L:=m;have al:=R _ _ g2;have U:=R _ _ rz;clear C;cbv;refine mQw al ?_;cbv;refine⟨⟨_,rfl,rfl⟩,?_⟩;cbv;refine mQw U ?_;cbv;refine⟨⟨_,rfl,rfl⟩,?_⟩;cbv;refine mQw U ?_;cbv;refine⟨⟨_,rfl,rfl⟩,?_⟩;cbv;refine EZ (m.mono R) st.table (λT t1 u1 w1 t2 u2 w2 J ab Y=>?_);rw[<-J]at RN P;replace N:bXT a s st T:=N a T rfl J.symm;clear J;cbv;refine ja Zg (by simp) (λj w=>?_);have ag:j t=some (.cells #[.string T.S.name,.slice t1 u1 w1,.int .i64 T.S.key,.bool T.S.only,.slice t2 u2 w2] 51 (0,0)):=by rw[w];exact ae
 have Cf:bR [155,84,86] O j:=by rw[w];exact bR.set Zg (by decide)
 have s1:=ab.mono (Cf.sub);have s2:=Y.mono (Cf.sub);clear ab Y Cf ag;have i:j t=some (.cells #[.string T.S.name,.slice t1 u1 w1,.int .i64 T.S.key,.bool T.S.only,.slice t2 u2 w2] 51 (0,0)):=by rw[w];exact ae
 have M:Le G j:=λb o K=>by rw[w,aO (λe=>by rw[e,x]at K;cases K)];exact R _ _ K
 have JC:t≠p:=λe=>by rw[e,g3]at x;cases x
 clear w;obtain⟨X,B⟩:∃b,b=T.S.only:=⟨_,rfl⟩;have Q:=i;rw[<-B]at Q;cbv;rw[ai A,ai A];refine mQw Q ?_;cbv;have S:=M _ _ Bf;have V:=Px.trans (M.kp [p]);have z:=L.mono M;cases X with
 |true=>rw[<-B,if_pos rfl]at P;subst P;have v:=l j V z;clear l;cbv;exact v
 |false=>rw[<-B,if_neg (by simp)]at P;have ig:∀f,Le j f->fM f p a s st->Ct 70 [.pointer (some ⟨wb,0,none⟩),.pointer (some ⟨t,0,none⟩)] f (λr I=>r=.int .i64 (wq a s st T).2/\Kp [p] f I/\fM I p (wq a s st T).1 s st):=λf y u=>N u hx FJ W (by omega) jx (y _ _ S) RN (y _ _ i) (s1.mono (y.t _)) (s2.mono (y.t _)) (λI k7 q7=>⟨rfl,k7,q7⟩);generalize wq a s st T=E at *;cbv;refine mQw S ?_;cbv;refine NY z ig (λf k6 u=>?_);rw[<-P]at u |-;have v:=l f (V.trans k6) u;clear l ig;generalize D.2.2=De at *;cbv;exact v
theorem cKU{x:aJ}{y:Qy}(g:y.group<0)(D:∀i∈x.items,i.fn=1):Rp x y:=λ{h0 h p cols} q hx e {rows} r m f hw {j o rc} d qr {k} a=>cXy q hx g D qr.sl (λh' b n c l s=>a h' b n c (d.trans l) s)
theorem Hf(j:st.join=b0)(h:cJf d s st):cJg d s st:=λ{b p} q hx {n} e m x {k} a=>hZE q hx j e m x h a
theorem Sq(j:¬st.join=b0)(h:cJf d s st):cJg d s st:=λ{b p} q hx {n} e m x {k} a=>hZD q hx j e m x h a
theorem Zv(d:DB)(s:Int)(st:aJ)(T:cW):bZe d s st T:=by intro l p q hx n e C j r t w h b m f c o i g O J k a;exact fJB q hx e C j w h g O J a
theorem Xw(d:DB)(s:Int)(st:aJ)(T:cW):bXT d s st T:=by intro l p q hx F n e C j r t w h b m f c o i g O J k a;exact eJw q hx F e C j w h g O J a
theorem eJu(F:st.kind=4):cZJ d s st:=by intro b p q hx n e j x k h;exact eJt q hx F e j x (λa T _ _=>Xw a s st T) h
theorem dQg:cJi d s st:=by intro b p q hx n e j x k h;exact fJz q hx e j x (λa T _ _=>Zv a s st T) h
end Go.S
