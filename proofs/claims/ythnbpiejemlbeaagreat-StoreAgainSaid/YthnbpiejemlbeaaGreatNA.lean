import Derived.Test.YthnbpiejemlbeaaGreatMB
set_option linter.all false
set_option maxRecDepth 100000
set_option maxHeartbeats 8000000
namespace Go.S
open Go.Sx Go.Proofs
variable {d:DB}{s:Int}{i n:Nat}{r:Row}{w:eJ}
theorem SC.RX(q:SC d)(h:d.holds.length<=n)(W:d.waits.length<=n):sW n d:=by
 refine⟨?_,q.gi,q.mX,λt a=>?_,h,W,λx hx=>?_⟩
 .have:=q.tw.le;omega
 .have:=(q.tw.ok t a).2.1.le;omega
 obtain⟨w,b,e⟩:=q.hw x hx;have:=q.mX w b;omega
theorem GW:∀a b c:List UInt8,Lib.compareBytes a b<0->Lib.compareBytes b c<0->Lib.compareBytes a c<0
 | [],_,[],h,d=>by
  rename_i b;cases b with
  |nil=>simp[Lib.compareBytes]at h
  |cons y b=>simp[Lib.compareBytes]at d
 | [],_,z::c,h,d=>by simp[Lib.compareBytes]
 |x::a,[],_,h,d=>by simp[Lib.compareBytes]at h
 |x::a,y::b,[],h,d=>by simp[Lib.compareBytes]at d
 |x::a,y::b,z::c,h,d=>by
  have i:=GW a b c;unfold Lib.compareBytes at h d |-
  grind
theorem GX{a b c:ByteArray}(h:dy a b<0)(d:dy b c<0):dy a c<0:=by unfold dy at *;exact GW _ _ _ h d
theorem JG{b:Type}{p:b->Bool}{x:b}:∀ {l:List b},x∈l.takeWhile p->p x=true
 | [],h=>by cases h
 |y::r,h=>by
  cases a:p y with
  |true=>
   rw[kZB a]at h;rcases kXB.1 h with rfl|h
   .exact a
   exact JG h
  |false=>rw[kXL (by rw[a];simp)]at h;cases h
theorem Ep{a:Type}{p:a->Bool}{x:a}:∀ {l:List a},l[(l.takeWhile p).length]? =some x->p x=false
 | [],h=>by simp at h
 |y::r,h=>by
  cases b:p y with
  |true=>rw[kZB b,kZs]at h;exact Ep (l:=r) (iu h)
  |false=>
   rw[kXL (by rw[b];simp)]at h
   grind
theorem AH{T:List bS}(h:T.Pairwise (λa b=>dy a.S.name b.S.name<0))(nm:ByteArray):
 dE (aU T nm)=dh T nm/\dh T nm<=T.length/\(∀t∈T.take (dh T nm),dy t.S.name nm<0)/\∀t∈T.drop (dh T nm),¬dy t.S.name nm<0:=by
 have hl:(aU T nm).length=T.length:=by simp[aU]
 have get:∀(j:Nat) (t:bS),T[j]? =some t->(aU T nm).getD j 0=dy t.S.name nm:=λj t c=>by
  grind [aU]
 have X:dh T nm<=T.length:=(kXv _).length_le;have O:T.take (dh T nm)=T.takeWhile λt=>decide (dy t.S.name nm<0):=by unfold dh;exact(kXZ.1 (kJz _)).symm
 have E:∀t∈T.take (dh T nm),dy t.S.name nm<0:=λt c=>by
  grind [JG]
 have K:∀t,T[dh T nm]? =some t->¬dy t.S.name nm<0:=λt c=>by
  grind [Ep,dy]
 have o:∀(j:Nat) (t:bS),dh T nm<=j->T[j]? =some t->¬dy t.S.name nm<0:=λj t d c=>by
  rcases Nat.eq_or_lt_of_le d with e|Z
  .grind
  have p:=(HH.1 c).1;obtain⟨k,g⟩:=cK T (dh T nm);intro q;have:=kJJ.1 h _ j (HH.1 g).1 p Z
  grind [GX]
 refine⟨?_,X,E,λt c=>?_⟩
 .unfold dE;refine yy _ _ (λj d=>?_) 0 _ (λj f i=>?_) (kXH _) ip
  .obtain⟨t,c⟩:=cK T j;rw[get j t c];exact E t (kQR (by rw[kZo,if_pos d];exact c))
  obtain⟨t,c⟩:=cK T j
  grind
 obtain⟨j,d⟩:=kXT c
 grind
theorem Rt{T:List bS}(h:T.Pairwise (λa b=>dy a.S.name b.S.name<0))(nm:ByteArray):iC (aU T nm)=T.any (λt=>decide (t.S.name=nm)):=by
 cases c:T.any (λt=>decide (t.S.name=nm))with
 |true=>
  obtain⟨t,d,e⟩:=wM.1 c;have e:=kZr e;obtain⟨i,f⟩:=kXT d
  grind [qE]
 |false=>
  grind [LL]
theorem Ib{W:List eJ}(h:¬decide ((W.length:Int)>0)=true):W=[]:=by rw[decide_eq_true_iff]at h;exact kZh ip
theorem Jk(q:SC d){s:rM}(f:s.name≠tG->s.cols=bI/\s.key=0)(g:s.name.size<=12):SC (dx d s).1/\(dx d s).1.holds=d.holds/\(dx d s).1.waits=d.waits/\(dx d s).1.ai=d.ai:=by
 unfold dx;split
 .exact⟨q,rfl,rfl,rfl⟩
 split
 .exact⟨q,rfl,rfl,rfl⟩
 rename_i i;split
 .exact⟨q,rfl,rfl,rfl⟩
 rename_i e;split
 .exact⟨q,rfl,rfl,rfl⟩
 rename_i c;have e:d.ao.length<8:=gg
 have c:d.ai=[]:=Ib c;obtain⟨-,p,j,k⟩:=AH q.tw.gi s.name;have a:TW (d.ao.take (dh d.ao s.name)++[(⟨s,[]⟩:bS)]++d.ao.drop (dh d.ao s.name)):=?_
 .exact⟨⟨a,q.gi,q.mX,λw b=>(by
   have b:w∈d.ai:=b
   grind),q.Pz,q.hu,q.hw,q.hc,q.lg⟩,rfl,rfl,rfl⟩
 refine⟨?_,λt h=>?_,?_⟩
 .show(d.ao.take (dh d.ao s.name)++[(⟨s,[]⟩:bS)]++d.ao.drop (dh d.ao s.name)).Pairwise _;have l:=q.tw.gi;rw[<-GD (dh d.ao s.name) d.ao,kZk]at l
  grind [xD,dy,mO,dh]
 .have h:t∈d.ao.take (dh d.ao s.name)++[(⟨s,[]⟩:bS)]++d.ao.drop (dh d.ao s.name):=h;rcases kJj.1 h with h|h
  .rcases kJj.1 h with h|h
   .exact q.tw.ok t (kZx h)
   grind [SO.nil]
  exact q.tw.ok t (kXN h)
 grind
theorem SU(q:SC d)(nm:ByteArray):SC (dY d nm).1/\(dY d nm).1.holds=d.holds/\(dY d nm).1.waits=d.waits/\(dY d nm).1.ai=d.ai:=by
 unfold dY;split
 .split
  .exact⟨q,rfl,rfl,rfl⟩
  rename_i h;have h:d.ai=[]:=Ib h;have k:=kXY d.ao (dE (aU d.ao nm));refine⟨⟨⟨q.tw.gi.sublist k,λt a=>q.tw.ok t (k.subset a),kXj k.length_le q.tw.le⟩,q.gi,q.mX,λw b=>?_,q.Pz,q.hu,q.hw,q.hc,q.lg⟩,rfl,rfl,rfl⟩
  grind
 grind
def Mo(d:DB):Prop:=∀w∈d.ai,w.marks.Pairwise (λa b=>a.at_<=b.at_)
structure SJ(n:Nat)(d:DB):Prop where
 sc:SC d
 mo:Mo d
 hn:d.holds.length<=n
 wn:d.waits.length<=n
theorem SJ.RX(q:SJ n d):sW n d:=q.sc.RX q.hn q.wn
theorem SJ.le{m:Nat}(q:SJ n d)(h:n<=m):SJ m d:=⟨q.sc,q.mo,kXj q.hn h,kXj q.wn h⟩
theorem Er(q:SJ n d)(hd:bZ)(s:-2^63<=hd.s/\hd.s<2^63):SJ (n+1) (cC d hd).1:=by have h:=oS q.RX hd s;exact⟨(MX q.sc hd s).1,λw a=>q.mo w (h.sub.subset a),h.ok.holds,h.ok.waits⟩
theorem Pd(q:SJ n d)(h:-2^63<=s/\s<2^63):SJ n (cA d s).1:=by
 unfold cA;split
 .exact⟨BM q.sc h,λw a=>q.mo w ((tS _ _).subset a),kXj (gS _ _) q.hn,kXj (gS _ _) q.wn⟩
 exact q
theorem Uk(q:SJ n d)(h:-2^63<=s/\s<2^63):SJ n (bQ d s).1:=by
 unfold bQ;split
 .exact⟨aQx q.sc h q.sc.tw rfl _,λw a=>q.mo w ((tS _ _).subset a),kXj (gS _ _) q.hn,kXj (gS _ _) q.wn⟩
 exact q
theorem Uj(q:SJ n d){s:rM}(h:s.name≠tG->s.cols=bI/\s.key=0)(f:s.name.size<=12):SJ n (dx d s).1:=by obtain⟨a,b,c,e⟩:=Jk q.sc h f;exact⟨a,λw g=>q.mo w gg,by rw[b];exact q.hn,by rw[c];exact q.wn⟩
theorem aZX(q:SJ n d)(nm:ByteArray):SJ n (dY d nm).1:=by obtain⟨a,b,c,e⟩:=SU q.sc nm;exact⟨a,λw h=>q.mo w gg,by rw[b];exact q.hn,by rw[c];exact q.wn⟩
theorem VT(I:SI d)(c:0<=s/\s<8)(k:iC (cf d.ai s)=false):∃i,dE (cf d.ai s)=i/\i<=d.ai.length/\(∀w∈d.ai.take i,w.s<s)/\∀w∈d.ai.drop i,s<w.s:=by
 obtain⟨i,b⟩:∃i,i=(d.ai.takeWhile λw=>decide (w.s<s)).length:=⟨_,rfl⟩;have l:i<=d.ai.length:=by rw[b];exact(kXv _).length_le
 have O:d.ai.take i=d.ai.takeWhile λw=>decide (w.s<s):=by rw[b];exact(kXZ.1 (kJz _)).symm
 have E:∀w∈d.ai.take i,w.s<s:=λw h=>by
  grind [JG]
 have g:∀w,d.ai[i]? =some w->¬w.s<s:=λw h=>by
  grind [Ep]
 have V:∀w∈d.ai,w.s≠s:=λw h e=>by
  have:=(kP I.gi I.mX (s:=s) ip).2 ⟨w,h,e⟩
  grind
 refine⟨i,Lt I c l (λj w a h=>E w (kQR (by rw[kZo,if_pos a];exact h))) g,l,E,λw h=>?_⟩;obtain⟨j,a⟩:=kXT h;rw[kXz]at a;obtain⟨w0,K⟩:=ay (xs:=d.ai) (i:=i) gg;have h0:=g w0 K;have f:=V w0 (kQR K);cases j with
 |zero=>
  grind
 |succ j=>
  have:=kJJ.1 I.gi i (i+(j+1)) (HH.1 K).1 (HH.1 a).1 ip
  grind
theorem XO(q:SJ n d)(o:n<=2^17)(s:Int):SJ n (iP d s).1:=by
 unfold iP jl;split
 .exact q
 rename_i p;have e:0<=s/\s<8:=gg
 split
 .exact q
 rename_i g;have j:iC (cf d.ai s)=false:=iu g
 obtain⟨i,l,m,E,Z⟩:=VT (q.sc.si q.RX o) e j;rw[l];have C:∀w,w∈d.ai.take i++[(⟨s,[],[]⟩:eJ)]++d.ai.drop i->w∈d.ai\/w=⟨s,[],[]⟩:=λw a=>by
  grind
 have f:∀w,w∈d.ai->w∈d.ai.take i++[(⟨s,[],[]⟩:eJ)]++d.ai.drop i:=λw a=>by
  rw[<-GD i d.ai]at a
  grind
 refine⟨⟨q.sc.tw,?_,λw a=>?_,λw a=>?_,λw a=>?_,q.sc.hu,λx hx=>?_,q.sc.hc,λw a c b=>?_⟩,λw a=>?_,q.hn,q.wn⟩
 .show(d.ai.take i++[(⟨s,[],[]⟩:eJ)]++d.ai.drop i).Pairwise _;have r:=q.sc.gi
  grind
 .rcases C w a with h|rfl
  .exact q.sc.mX w h
  exact e
 .rcases C w a with h|rfl
  .exact q.sc.log w h
  grind
 .rcases C w a with h|rfl
  .exact q.sc.Pz w h
  grind
 .obtain⟨w,a,k⟩:=q.sc.hw x hx;exact⟨w,f w a,k⟩
 .rcases C w a with h|rfl
  .exact q.sc.lg w h c b
  cases b
 rcases C w a with h|rfl
 .exact q.mo w h
 exact List.Pairwise.nil
theorem pY{w':eJ}(f:d.ai[i]? =some w)(s:w'.s=w.s):(∀x∈d.ai.set i w',x∈d.ai\/x=w')/\(∀x∈d.ai,∃y∈d.ai.set i w',y.s=x.s)/\((d.ai.Pairwise (λa b=>a.s<b.s))->(d.ai.set i w').Pairwise (λa b=>a.s<b.s)):=by
 have l:=(HH.1 f).1;refine⟨λx hx=>kZa hx,λx hx=>?_,λh=>?_⟩
 .obtain⟨j,c⟩:=kXT hx;by_cases W:i=j
  .subst W;rw[f]at c;cases c;exact⟨w',kZO.2 ⟨i,kXU l⟩,s⟩
  exact⟨x,kZO.2 ⟨j,gg⟩,rfl⟩
 rw[kJJ];have e:∀j (c:j<(d.ai.set i w').length),(d.ai.set i w')[j].s=(d.ai[j]'(iu c)).s:=λj c=>by
  grind
 intro a b g k Q;rw[e a g,e b k];exact kJJ.1 h a b _ _ Q
theorem Jn{hd:bZ}{l:DB}{j:Nat}{t t':bS}(g:yB n hd l i w j t)(p:Mo l)(hx:hd.x=true)(C:hd.table≠tG)(u:t'.S=t.S)(v:SO t'.rows){x:cR}(e1:x.table=hd.table)(r:gC x.row)(s:x.op=1\/x.op=2)(hl:w.log.length<60):
 SJ (n+1) ⟨l.ao.set j t',l.ai.set i ⟨w.s,w.log++[x],w.marks⟩,l.holds,l.waits⟩:=by
 have q:=g.sc;have S:(l.ao.set j t').map (·.S)=l.ao.map (·.S):=by
  apply kZq;intro k;rw[kZf,kZf,kKl];split
  .rename_i e;subst e;rw[g.tj];have:=(HH.1 g.tj).1
   grind
  rfl
 obtain⟨o,F,A⟩:=pY (w':=⟨w.s,w.log++[x],w.marks⟩) g.wi rfl;have D:=kQR g.wi;refine⟨⟨q.tw.set g.tj (by rw[g.tn];exact C) u v,A q.gi,λy f=>?_,λy f=>?_,λy f=>?_,q.hu,λz d=>?_,q.hc,λy f c m=>?_⟩,λy f=>?_,g.ok.holds,g.ok.waits⟩
 .rcases o y f with h|rfl
  .exact q.mX y h
  exact q.mX w D
 .rcases o y f with h|rfl
  .obtain⟨a,b⟩:=q.log y h;exact⟨λz d=>(a z d).map S,b⟩
  obtain⟨a,b⟩:=q.log w D;refine⟨λz d=>?_,by simp;omega⟩;rcases kJj.1 d with d|d
  .exact(a z d).map S
  simp at d;subst d;exact vJ.map ⟨r,s,⟨t,kQR g.tj,by rw[e1];exact g.tn⟩,gg⟩ S
 .rcases o y f with h|rfl
  .exact q.Pz y h
  obtain⟨a,b⟩:=q.Pz w D
  grind
 .obtain⟨y,f,E⟩:=q.hw z d
  grind
 .rcases o y f with h|rfl
  .exact q.lg y h c m
  rcases kJj.1 m with m|m
  .exact q.lg w D c m
  simp at m;subst m;obtain⟨z,d,a1,a2,B⟩:=g.hl;exact⟨z,d,a1.trans g.ws.symm,by rw[a2,e1],gg⟩
 rcases o y f with h|rfl
 .exact p y h
 exact p w D
theorem aZK{S:rM}(a:S.cols=bI)(b:S.key=0){R:List Row}(h:SO R)(d:gC r\/r.length≠2){T:bS×Int}(c:bL ⟨S,R⟩ r=T):T.1.S=S/\SO T.1.rows:=by
 grind [lY,Rm]
theorem XN(q:SJ n d)(s:Int)(nm:ByteArray)(C:nm≠tG)(f:-2^63<=s/\s<2^63)(c:gC r\/r.length≠2):SJ (n+1) (oN d s nm r).1:=by
 have b:=Er q ⟨s,nm,true⟩ f;obtain⟨⟨A,e⟩,h⟩:∃X,cC d ⟨s,nm,true⟩=X:=⟨_,rfl⟩;rw[h]at b;by_cases u:e=0
 .subst u;obtain⟨i,w,j,⟨S,R⟩,g⟩:=jN q.sc q.RX f h;obtain⟨B,v⟩:=Cx h g C c (D:=oN d s nm r) rfl;obtain⟨l,p,-⟩:=g.sc.tw.ok _ (kQR g.tj);obtain⟨m,o⟩:=l (by rw[g.tn];exact C);by_cases G:(w.log.length:Int)>=60
  .grind
  obtain⟨T,a⟩:∃T,bL ⟨S,R⟩ r=T:=⟨_,rfl⟩;obtain⟨E,x⟩:=v G T a;obtain⟨y,z⟩:=aZK m o p c a;by_cases k:T.2=0
  .obtain⟨L,t⟩:=x k;rw[t];exact Jn g b.mo rfl C y z rfl L (.inl rfl) ip
  grind
 grind [oN,jB]
theorem aZU(q:SJ n d)(s:Int)(nm:ByteArray)(r:nm≠tG)(a:Int)(f:-2^63<=s/\s<2^63):SJ (n+1) (lZ d s nm ⟨2,a,dQ⟩).1:=by
 have c:=Er q ⟨s,nm,true⟩ f;obtain⟨⟨E,e⟩,h⟩:∃X,cC d ⟨s,nm,true⟩=X:=⟨_,rfl⟩;rw[h]at c;by_cases t:e=0
 .subst t;obtain⟨i,w,j,⟨S,R⟩,g⟩:=jN q.sc q.RX f h;obtain⟨F,v⟩:=zE h g (a:=a) r (D:=lZ d s nm ⟨2,a,dQ⟩) rfl;obtain⟨l,o,-⟩:=g.sc.tw.ok _ (kQR g.tj);obtain⟨B,m⟩:=l (by rw[g.tn];exact r);cases u:S.only with
  |true=>grind
  |false=>
   obtain⟨H,x⟩:=v u;by_cases G:(w.log.length:Int)>=60
   .grind
   obtain⟨T,b⟩:∃T,bE ⟨S,R⟩ ⟨2,a,dQ⟩=T:=⟨_,rfl⟩;obtain⟨I,y⟩:=x G T b;have z:T.1.S=S:=by rw[<-b];exact lE _ _
   have A:SO T.1.rows:=by rw[<-b];exact LG m o a
   by_cases k:T.2.2=0
   .obtain⟨C,p⟩:=y k;rw[p];exact Jn g c.mo rfl r z A rfl C (.inr rfl) ip
   grind
 grind [lZ,dQ,jB]
theorem aZW(q:SJ n d)(s:Int)(nm:ByteArray)(h:-2^63<=s/\s<2^63):SJ (n+1) (qI d s nm).1:=by
 grind [Er,qI]
theorem EY(q:SC d)(a:-2^63<=s/\s<2^63)(h:iC (cf d.ai s)=true):∃w,d.ai[dE (cf d.ai s)]? =some w/\w.s=s:=xL q.mX a h
theorem aZV(q:SJ n d)(s:Int)(nm:ByteArray)(o:-2^63<=s/\s<2^63):SJ n (kX d s nm).1:=by
 unfold kX;split
 .rename_i j;obtain⟨w,i,l⟩:=EY q.sc o j;split
  .exact q
  rw[i];simp only;split
  .exact q
  rename_i m;have m:w.marks.length<10:=gg
  obtain⟨g,x,r⟩:=pY (w':=⟨w.s,w.log,w.marks++[⟨nm,(w.log.length:Int)⟩]⟩) i rfl;have D:=kQR i;have e:=q.sc;obtain⟨u,v⟩:=e.Pz w D;refine⟨⟨e.tw,r e.gi,λy f=>?_,λy f=>?_,λy f=>?_,e.hu,λz p=>?_,e.hc,λy f c k=>?_⟩,λy f=>?_,q.hn,q.wn⟩
  .rcases g y f with h|rfl
   .exact e.mX y h
   exact e.mX w D
  .rcases g y f with h|rfl
   .exact e.log y h
   exact e.log w D
  .rcases g y f with h|rfl
   .exact e.Pz y h
   grind
  .obtain⟨y,f,l⟩:=e.hw z p
   grind
  .rcases g y f with h|rfl
   .exact e.lg y h c k
   exact e.lg w D c k
  rcases g y f with h|rfl
  .exact q.mo y h
  show(w.marks++[_]).Pairwise _;rw[kZk];refine⟨q.mo w D,kZJ _ _,λa t b j=>?_⟩
  grind
 exact q
theorem PA{l:List mS}{nm:ByteArray}:∀ {i k:Nat},xW l nm i=some k->k<i/\k<l.length
 |0,k,h=>by cases h
 |i+1,k,h=>by
  unfold xW at h;split at h
  .rename_i m a;split at h
   .grind
   have:=PA h
   grind
  have:=PA h
  grind
theorem aZY(q:SJ n d)(s:Int)(nm:ByteArray)(M:-2^63<=s/\s<2^63):SJ n (mu d s nm).1:=by
 unfold mu;split
 .rename_i G;obtain⟨w,u,H⟩:=EY q.sc M G;rw[u];simp only;split
  .rename_i k I;obtain⟨T,N⟩:=PA I;obtain⟨B,L⟩:=ay (xs:=w.marks) (i:=k) N;have D:=kQR u;have f:=q.sc;obtain⟨U,A⟩:=f.Pz w D;obtain⟨a,C,F⟩:=A B (kQR L);have E:fP (((w.marks[k]?).map (·.at_)).getD 0) w.log.length=a:=by
    grind [fP]
   rw[E];obtain⟨p,V,Q⟩:=pY (w':=⟨w.s,w.log.take a,w.marks.take (k+1)⟩) u rfl;have K:=vT f.tw (l:=w.log.drop a) (λx hx=>(f.log w D).1 x (kXN hx));have S:=pI d.ao (w.log.drop a);refine⟨⟨K,Q f.gi,λy g=>?_,λy g=>?_,λy g=>?_,f.hu,λz o=>?_,f.hc,λy g c v=>?_⟩,λy g=>?_,q.hn,q.wn⟩
   .rcases p y g with h|rfl
    .exact f.mX y h
    exact f.mX w D
   .rcases p y g with h|rfl
    .obtain⟨a1,a2⟩:=f.log y h;exact⟨λz o=>(a1 z o).map S,a2⟩
    obtain⟨a1,a2⟩:=f.log w D;exact⟨λz o=>(a1 z (kZx o)).map S,by simp;omega⟩
   .rcases p y g with h|rfl
    .exact f.Pz y h
    refine⟨by simp;omega,λm r=>?_⟩;have r:m∈w.marks.take (k+1):=r;obtain⟨b,O,R⟩:=A m (kZx r);refine⟨b,O,?_⟩;have J:m.at_<=B.at_:=by
     obtain⟨j,t⟩:=kXT r;have P:=(HH.1 t).1;rw[kJI]at P;rw[kZo,if_pos ip]at t;rcases Nat.eq_or_lt_of_le (show j<=k by omega)with e|Z
     .grind
     have:=kJJ.1 (q.mo w D) j k (HH.1 t).1 (HH.1 L).1 Z
     grind
    grind
   .obtain⟨y,g,H⟩:=f.hw z o
    grind
   .rcases p y g with h|rfl
    .exact f.lg y h c v
    exact f.lg w D c (kZx v)
   rcases p y g with h|rfl
   .exact q.mo y h
   exact(q.mo w D).sublist (List.take_sublist _ _)
  exact q
 exact q
end Go.S
