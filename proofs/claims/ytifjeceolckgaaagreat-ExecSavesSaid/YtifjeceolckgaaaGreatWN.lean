import Derived.Test.YtifjeceolckgaaaGreatWB
import Derived.Test.YtifjeceolckgaaaGreatYC
set_option linter.all false
set_option maxRecDepth 100000
set_option maxHeartbeats 8000000
namespace Go.S
open Go.Sx
variable {b:Bool}{s:ByteArray}{n:Nat}{p q:PS}{k:Value->ad->Prop}
def cZI(ws:List Wd):Prop:=∀w∈ws,rr w.n=true
structure gU(p:PS):Prop where
 ws:cZI p.ws
 e:iY p.e
theorem cZI.tail{w:Wd}{r:List Wd}(h:cZI (w::r)):cZI r:=λx hx=>h x (mXm _ hx)
theorem Td:rr 0=true:=by decide
theorem Vz:∀(t:By) (n:Int),0<=n->n<=9223372036854775807->rr (nG t n).1.1=true
 | [],n,h0,h=>jP.2 (show(-9223372036854775808:Int)<=n/\n<=9223372036854775807 by omega)
 |c::r,n,h0,h=>by
  unfold nG;cases hd:fq c with
  |false=>exact jP.2 (show(-9223372036854775808:Int)<=n/\n<=9223372036854775807 by omega)
  |true=>
   have a:=Nk hd;show rr (if n>(9223372036854775807-((c.toNat:Int)-48)) / 10 then((0,[]),11)else nG r (10*n+((c.toNat:Int)-48)):(Int×By)×Int).1.1=true;split
   .exact Td
   exact Vz r _ (by omega) (by omega)
theorem aZQ(c:UInt8)(r:By):rr (ll c r).1.1.n=true:=by
 unfold ll;split
 .exact Td
 split
 .have:=Vz (c::r) 0 (by omega) (by omega);generalize nG (c::r) 0=N at *;obtain⟨p,e⟩:=N;exact this
 split
 .generalize iH r []=N;obtain⟨p,e⟩:=N;exact Td
 split
 .exact Td
 exact Td
theorem Ms:∀(k:Nat) (t:By) (l:List Wd),cZI l->cZI (nK k t l).1
 |0,t,l,h=>h
 |k+1,t,l,h=>by
  unfold nK;split
  .intro w a;rcases mQE.1 a with a|a
   .exact h w a
   rw[mQH]at a;rw[a];exact Td
  rename_i c r;split
  .exact Ms k r l h
  have n:=aZQ c r;generalize ll c r=N at *;obtain⟨p,e⟩:=N;show cZI (if e=0 then nK k p.2 (l++[p.1])else([],e):List Wd×Int).1;split
  .refine Ms k p.2 _ (λw a=>?_);rcases mQE.1 a with a|a
   .exact h w a
   rw[mQH]at a;rw[a];exact n
  intro w a;cases a
theorem aQN(s:ByteArray):cZI (iq s).1:=by
 unfold iq;split
 .intro w h;cases h
 exact Ms _ _ _ (λw h=>by cases h)
theorem bKy{z:Int}(h:Ec z=true):z<128:=by
 unfold Ec at h;by_cases a:z<128
 .exact a
 exfalso;have b:decide (z>122)=true:=mQu (by omega);have c:decide (z>57)=true:=mQu (by omega);have d:(z !=95)=true:=by rw[bne_iff_ne];omega
 rw[b,c,d]at h;simp at h
theorem Ys(h:ao s=true):Nm s/\s.size<=12:=by
 unfold ao at h;rw[mQQ,mQQ]at h;obtain⟨⟨a,b⟩,-⟩:=h;have d:s.size<=12:=by unfold BS at a;simp only[mZx,mJd,decide_eq_false_iff_not]at a;omega
 refine⟨⟨λi c=>?_,by omega⟩,d⟩;have:=bKy (mXq.1 b i (mJl.2 c));unfold jg at this;omega
theorem dZD{t:ByteArray}(a:Nm s)(b:Nm t)(l:s.size<=12)(lt:t.size<=12):Nm (s++aM [46]++t):=by
 refine⟨oh.2 (λc h=>?_),?_⟩
 .have e:(s++aM [46]++t).data.toList=s.data.toList++[46]++t.data.toList:=by simp[mKk,aM]
  rw[e]at h;rcases mQE.1 h with h|h
  .rcases mQE.1 h with h|h
   .exact oh.1 a.dQu c h
   rw[mQH]at h;rw[h];decide
  exact oh.1 b.dQu c h
 rw[mZm,mZm];show s.size+1+t.size<=_;omega
theorem gU.fail(h:gU p)(e:Int):gU (p.fail e):=by
 unfold PS.fail;split
 .exact⟨h.ws,h.e⟩
 exact h
theorem gU.is(h:gU p)(s:ByteArray):gU (p.is s).2:=by
 obtain⟨b,a,e⟩:=p;unfold PS.is;cases b with
 |nil=>exact h
 |cons w r=>
  show gU (if a=0/\(w.k=1\/w.k=4)/\w.s=s then(true,(⟨r,a,e⟩:PS))else(false,⟨w::r,a,e⟩)).2;split
  .exact⟨h.ws.tail,h.e⟩
  exact h
theorem gU.Fy(h:gU p)(e:p.is s=(b,q)):gU q:=by have:=h.is s;rw[e]at this;exact this
theorem gU.cd:∀(l:List ByteArray) {p:PS},gU p->gU (p.cd l)
 | [],p,h=>h
 |s::r,p,h=>by
  unfold PS.cd;split
  .rename_i q e;exact gU.cd r (h.Fy e)
  rename_i q e;exact gU.cd r ((h.Fy e).fail 6)
theorem gU.eQ:∀(l:List (ByteArray×Int)) {p:PS},gU p->gU (p.eQ l).2
 | [],p,h=>h
 | (s,op)::r,p,h=>by
  unfold PS.eQ;split
  .rename_i q e;exact h.Fy e
  rename_i q e;exact gU.eQ r (h.Fy e)
theorem gU.AZ{o:Option Int}{l:List (ByteArray×Int)}(h:gU p)(e:p.eQ l=(o,q)):gU q:=by have:=h.eQ l;rw[e]at this;exact this
theorem gU.node(h:gU p){n:Nd}(b:Nm n.name/\kM n.v):gU (p.node n).2:=by
 unfold PS.node;split
 .exact h
 split
 .exact h.fail 4
 refine⟨h.ws,λm a=>?_⟩;rcases mQE.1 a with a|a
 .exact h.e m a
 rw[mQH]at a;rw[a];exact b
theorem gU.name(h:gU p):gU (p.name ao).2/\Nm (p.name ao).1/\(p.name ao).1.size<=12:=by
 obtain⟨s,a,e⟩:=p;unfold PS.name;cases s with
 |nil=>exact⟨h,iX,by show(0:Nat)<=12;omega⟩
 |cons w r=>
  show gU (if a=0/\w.k=1/\ao w.s=true then(w.s,(⟨r,a,e⟩:PS))else(b0,(⟨w::r,a,e⟩:PS).fail 6)).2/\Nm (if a=0/\w.k=1/\ao w.s=true then(w.s,(⟨r,a,e⟩:PS))else(b0,(⟨w::r,a,e⟩:PS).fail 6)).1/\(if a=0/\w.k=1/\ao w.s=true then(w.s,(⟨r,a,e⟩:PS))else(b0,(⟨w::r,a,e⟩:PS).fail 6)).1.size<=12;split
  .rename_i c;exact⟨⟨h.ws.tail,h.e⟩,Ys c.2.2⟩
  exact⟨h.fail 6,iX,by show(0:Nat)<=12;omega⟩
theorem gU.column(h:gU p):gU (p.column ao).2/\Nm (p.column ao).1:=by
 obtain⟨f,a,i⟩:=h.name;unfold PS.column;show gU (match (p.name ao).2.is (aM [46])with
  | (true,q)=>((p.name ao).1++aM [46]++(q.name ao).1,(q.name ao).2)
  | (false,q)=>((p.name ao).1,q)).2/\Nm (match (p.name ao).2.is (aM [46])with
  | (true,q)=>((p.name ao).1++aM [46]++(q.name ao).1,(q.name ao).2)
  | (false,q)=>((p.name ao).1,q)).1
 have c:=f.is (aM [46]);generalize (p.name ao).2.is (aM [46])=I at *;obtain⟨b,q⟩:=I;cases b with
 |true=>obtain⟨g,d,e⟩:=gU.name (p:=q) c;exact⟨g,dZD a d i e⟩
 |false=>exact⟨c,a⟩
theorem aZS(op a:Int):Nm (un op a).name/\kM (un op a).v:=⟨iX,kA⟩
theorem cJE(op a b:Int):Nm (bin op a b).name/\kM (bin op a b).v:=⟨iX,kA⟩
theorem Pd{v:cO}(h:kM v):Nm (lit v).name/\kM (lit v).v:=⟨iX,h⟩
theorem xQ{sub:PS->Int×PS}(s:∀p,gU p->gU (sub p).2)(o:List (ByteArray×Int)):∀(n:Nat) (a:Int) (p:PS),gU p->gU (iA sub o n a p).2
 |0,a,p,h=>h
 |n+1,a,p,h=>by
  unfold iA;split
  .rename_i op q e;exact xQ s o n _ _ ((s q (h.AZ e)).node (cJE ..))
  rename_i q e;exact h.AZ e
theorem aJq:∀n:Nat,(∀p,gU p->gU (Vx ao n p).2)/\(∀p,gU p->gU (FP ao n p).2)/\(∀p,gU p->gU (wv ao n p).2)/\(∀p,gU p->gU (Bj ao n p).2)/\(∀p,gU p->gU (wu ao n p).2)/\(∀p,gU p->gU (Fq ao n p).2)/\(∀p,gU p->gU (wz ao n p).2)/\(∀p,gU p->gU (zO ao n p).2)
 |0=>by
  refine⟨?_,?_,?_,?_,?_,?_,?_,?_⟩<;>intro p h
  .unfold Vx;exact h
  .unfold FP;exact h
  .unfold wv;exact h
  .unfold Bj;exact h
  .unfold wu;exact h
  .unfold Fq;exact h
  .unfold wz;exact h
  unfold zO;exact h
 |n+1=>by
  obtain⟨k,a,y,K,f,m,B,F⟩:=aJq n;refine⟨?_,?_,?_,?_,?_,?_,?_,?_⟩<;>intro p h
  .unfold Vx;exact xQ a _ _ _ _ (a p h)
  .unfold FP;exact xQ y _ _ _ _ (y p h)
  .unfold wv;split
   .rename_i q e;exact(y q (h.Fy e)).node (aZS ..)
   rename_i q e;exact K q (h.Fy e)
  .unfold Bj;have b:=f p h;show gU (match (wu ao n p).2.is (aM [105,115])with
    | (true,q)=>(q.cd [aM [110,117,108,108]]).node (un 5 (wu ao n p).1)
    | (false,q)=>match q.eQ pj with
     | (some op,q)=>(wu ao n q).2.node (bin op (wu ao n p).1 (wu ao n q).1)
     | (none,q)=>((wu ao n p).1,q)).2
   split
   .rename_i q e;exact(gU.cd _ (b.Fy e)).node (aZS ..)
   rename_i q e;have c:=b.Fy e;split
   .rename_i op j d;exact(f j (c.AZ d)).node (cJE ..)
   rename_i j d;exact c.AZ d
  .unfold wu;exact xQ m _ _ _ _ (m p h)
  .unfold Fq;exact xQ B _ _ _ _ (B p h)
  .unfold wz;split
   .rename_i q e;exact(B q (h.Fy e)).node (aZS ..)
   rename_i q e;exact F q (h.Fy e)
  unfold zO;split
  .exact h
  rename_i w r t;have l:cZI (w::r):=by rw[<-t];exact h.ws
  have i:gU ({ p with ws:=r }:PS):=⟨l.tail,h.e⟩;split
  .exact h
  split
  .exact i.node (Pd (l w mXn))
  split
  .exact i.node (Pd Td)
  split
  .rename_i q e;exact(h.Fy e).node (Pd (show rr 1=true by decide))
  rename_i q e;have b:=h.Fy e;split
  .rename_i q e;exact(b.Fy e).node (Pd (show rr 0=true by decide))
  rename_i q e;have c:=b.Fy e;split
  .rename_i q e;exact(c.Fy e).node (Pd kA)
  rename_i q e;have g:=c.Fy e;split
  .rename_i q e;exact gU.cd _ (k q (g.Fy e))
  rename_i q e;obtain⟨o,s⟩:=(g.Fy e).column;exact o.node ⟨s,kA⟩
theorem ir:iY []:=λn h=>by cases h
theorem gU.expr(h:gU p):gU (p.expr ao).2/\iY (p.expr ao).1:=by have:=(aJq (9*p.ws.length+9)).1 { p with e:=[] } ⟨h.ws,ir⟩;exact⟨this,this.e⟩
theorem gU.more(h:gU p)(n:Nat):gU (p.more n).2:=by
 unfold PS.more;split
 .rename_i q e;exact h.Fy e
 rename_i q e;split
 .exact(h.Fy e).fail 4
 exact h.Fy e
theorem Mk(e:p.more n=(true,q)):n<6:=by
 unfold PS.more at e;split at e
 .cases e
 split at e
 .cases e
 omega
theorem gU.Ku(h:gU p)(e:p.more n=(b,q)):gU q:=by have:=h.more n;rw[e]at this;exact this
theorem gU.bV(h:gU p):gU (p.bV ao).2/\iY (p.bV ao).1:=by
 unfold PS.bV;split
 .rename_i q e;exact(h.Fy e).expr
 rename_i q e;exact⟨h.Fy e,ir⟩
theorem Lf:∀(k:Nat) (l:List (List Nd)) (p:PS),gU p->(∀e∈l,iY e)->l.length<=6->gU (nY ao k l p).2/\(∀e∈(nY ao k l p).1,iY e)/\(nY ao k l p).1.length<=6
 |0,l,p,h,a,n=>⟨h,a,n⟩
 |k+1,l,p,h,a,n=>by
  unfold nY;split
  .rename_i q e;have P:=Mk e;obtain⟨g,b⟩:=(h.Ku e).expr;refine Lf k _ _ g (λx hx=>?_) (by rw[mQy,mQG];omega);rcases mQE.1 hx with hx|hx
   .exact a x hx
   rw[mQH]at hx;rw[hx];exact b
  rename_i q e;exact⟨h.Ku e,a,n⟩
theorem OD:∀(k:Nat) (a:List ByteArray) (b:List (List Nd)) (p:PS),gU p->(∀e∈b,iY e)->a.length=b.length->a.length<=6->(k≠0->a.length<6)->gU (nC ao k a b p).2/\(∀e∈(nC ao k a b p).1.2,iY e)/\(nC ao k a b p).1.1.length=(nC ao k a b p).1.2.length/\(nC ao k a b p).1.1.length<=6
 |0,a,b,p,h,c,G,n,_=>⟨h,c,G,n⟩
 |k+1,a,b,p,h,c,G,n,d=>by
  have d:=d (by omega);unfold nC;obtain⟨l,-,-⟩:=h.name;obtain⟨g,i⟩:=(gU.cd [aM [61]] l).expr;have j:∀e∈b++[(((p.name ao).2.cd [aM [61]]).expr ao).1],iY e:=λx hx=>by
   rcases mQE.1 hx with hx|hx
   .exact c x hx
   rw[mQH]at hx;rw[hx];exact i
  have f:(a++[(p.name ao).1]).length=(b++[(((p.name ao).2.cd [aM [61]]).expr ao).1]).length:=by rw[mQy,mQy,G];rfl
  have z:(a++[(p.name ao).1]).length<=6:=by rw[mQy,mQG];omega
  dsimp only;split
  .rename_i q e;exact OD k _ _ q (g.Ku e) j f z (λ_=>Mk e)
  rename_i q e;exact⟨g.Ku e,j,f,z⟩
theorem gU.item(h:gU p):gU (p.item ao).2/\iY (p.item ao).1.e:=by
 unfold PS.item;split
 .rename_i q e;exact⟨gU.cd _ (h.Fy e),ir⟩
 rename_i q e;have c:=h.Fy e;split
 .rename_i a b;exact(c.AZ b).expr
 rename_i fn a b;have i:gU (a.cd [aM [40]]):=gU.cd _ (c.AZ b);obtain⟨d,f⟩:=gU.column (p:={ a.cd [aM [40]]with e:=[] }) ⟨i.ws,ir⟩;have g:=d.node (n:=iP (({ a.cd [aM [40]]with e:=[] }:PS).column ao).1) ⟨f,kA⟩;exact⟨gU.cd _ g,g.e⟩
theorem Ky:∀(k:Nat) (l:List dO) (p:PS),gU p->(∀i∈l,iY i.e)->l.length<=6->(k≠0->l.length<6)->gU (iK ao k l p).2/\(∀i∈(iK ao k l p).1,iY i.e)/\(iK ao k l p).1.length<=6
 |0,l,p,h,a,n,_=>⟨h,a,n⟩
 |k+1,l,p,h,a,n,b=>by
  have b:=b (by omega);unfold iK;obtain⟨g,c⟩:=h.item;have z:∀i∈l++[(p.item ao).1],iY i.e:=λx hx=>by
   rcases mQE.1 hx with hx|hx
   .exact a x hx
   rw[mQH]at hx;rw[hx];exact c
  have m:(l++[(p.item ao).1]).length<=6:=by rw[mQy,mQG];omega
  dsimp only;split
  .rename_i q e;exact Ky k _ q (g.Ku e) z m (λ_=>Mk e)
  rename_i q e;exact⟨g.Ku e,z,m⟩
theorem rl(k:Int)(c:k≠4)(t nm:ByteArray){w:List Nd}(d:iY w):dr { kind:=k,table:=t,name:=nm,bV:=w }:=
 ⟨ir,d,λe a=>(by cases a),λi b=>(by cases b),mQC _,λh=>absurd h c,iX,iX,mQC _,mQC _⟩
theorem gU.insert(h:gU p):dr (p.insert ao).1:=by unfold PS.insert;obtain⟨c,-,-⟩:=(gU.cd [aM [105,110,116,111]] h).name;obtain⟨g,b⟩:=(gU.cd [aM [118,97,108,117,101,115],aM [40]] c).expr;obtain⟨-,e,a⟩:=Lf (((((p.cd [aM [105,110,116,111]]).name ao).2.cd [aM [118,97,108,117,101,115],aM [40]]).expr ao).2.ws.length+1) [((((p.cd [aM [105,110,116,111]]).name ao).2.cd [aM [118,97,108,117,101,115],aM [40]]).expr ao).1] _ g (λx hx=>by rw[mQH]at hx;rw[hx];exact b) (by show 1<=6;omega);exact⟨ir,ir,e,λi d=>(by cases d),mXT a (by omega),λk=>absurd k (by show ¬(3:Int)=4;decide),iX,iX,mQC _,mQC _⟩
theorem gU.update(h:gU p):dr (p.update ao).1:=by
 unfold PS.update;obtain⟨d,-,-⟩:=h.name;have f:=gU.cd [aM [115,101,116]] d;obtain⟨b,c,g,a⟩:=OD (((p.name ao).2.cd [aM [115,101,116]]).ws.length+1) [] [] _ f (λe j=>by cases j) rfl (by show 0<=6;omega) (λ_=>by show 0<6;omega);obtain⟨-,w⟩:=b.bV;exact⟨ir,w,c,λi k=>(by cases k),(by
  show(nC ao _ [] [] _).1.2.length<=_;rw[<-g];exact mXT a (by omega)),λ_=>g.symm,iX,iX,mQC _,mXT a (by omega)⟩
theorem gU.choose(h:gU p):dr (p.choose ao).1:=by
 unfold PS.choose;dsimp only;have c:=h.is (aM [42]);generalize p.is (aM [42])=st at *;have a:gU (if st.1=true then(([]:List dO),st.2)else iK ao (st.2.ws.length+1) [] st.2).2/\(∀i∈(if st.1=true then(([]:List dO),st.2)else iK ao (st.2.ws.length+1) [] st.2).1,iY i.e)/\(if st.1=true then(([]:List dO),st.2)else iK ao (st.2.ws.length+1) [] st.2).1.length<=6:=by
  split
  .exact⟨c,λi b=>(by cases b),mQC _⟩
  exact Ky _ _ _ c (λi b=>by cases b) (by show 0<=6;omega) (λ_=>by show 0<6;omega)
 generalize (if st.1=true then(([]:List dO),st.2)else iK ao (st.2.ws.length+1) [] st.2)=it at *;obtain⟨a,Q,l⟩:=a;have q:=(gU.cd [aM [102,114,111,109]] a).name;generalize (it.2.cd [aM [102,114,111,109]]).name ao=t at *;have d:=q.1.is (aM [106,111,105,110]);generalize t.2.is (aM [106,111,105,110])=j at *;have f:gU (if j.1=true then(((j.2.name ao).1,(((j.2.name ao).2.cd [aM [111,110]]).expr ao).1),(((j.2.name ao).2.cd [aM [111,110]]).expr ao).2)else((b0,[]),j.2)).2/\iY (if j.1=true then(((j.2.name ao).1,(((j.2.name ao).2.cd [aM [111,110]]).expr ao).1),(((j.2.name ao).2.cd [aM [111,110]]).expr ao).2)else((b0,[]),j.2)).1.2:=by
  split
  .exact(gU.cd [aM [111,110]] d.name.1).expr
  exact⟨d,ir⟩
 generalize (if j.1=true then(((j.2.name ao).1,(((j.2.name ao).2.cd [aM [111,110]]).expr ao).1),(((j.2.name ao).2.cd [aM [111,110]]).expr ao).2)else((b0,[]),j.2))=jn at *;have k:=f.1.bV;generalize jn.2.bV ao=w at *;have m:=k.1.is (aM [103,114,111,117,112]);generalize w.2.is (aM [103,114,111,117,112])=g at *;have n:gU (if g.1=true then(g.2.cd [aM [98,121]]).column ao else(b0,g.2)).2/\Nm (if g.1=true then(g.2.cd [aM [98,121]]).column ao else(b0,g.2)).1:=by
  split
  .exact(gU.cd _ m).column
  exact⟨m,iX⟩
 generalize (if g.1=true then(g.2.cd [aM [98,121]]).column ao else(b0,g.2))=r at *;have s:=n.1.is (aM [111,114,100,101,114]);generalize r.2.is (aM [111,114,100,101,114])=o at *;have L:Nm (if o.1=true then((((o.2.cd [aM [98,121]]).column ao).1,(((o.2.cd [aM [98,121]]).column ao).2.is (aM [100,101,115,99])).1),(((o.2.cd [aM [98,121]]).column ao).2.is (aM [100,101,115,99])).2)else((b0,false),o.2)).1.1:=by
  split
  .exact(gU.cd _ s).column.2
  exact iX
 exact⟨f.2,k.2,λe u=>(by cases u),Q,mQC _,λv=>absurd v (by show ¬(6:Int)=4;decide),n.2,L,mXT l (by omega),mQC _⟩
theorem BJ:dr {}:=⟨ir,ir,λe a=>(by cases a),λi b=>(by cases b),mQC _,λh=>absurd h (by decide),iX,iX,mQC _,mQC _⟩
theorem gU.stmt(h:gU p):dr (p.stmt ao).1.1:=by
 unfold PS.stmt;split
 .exact BJ
 rename_i k q e;have a:=h.AZ e;split
 .exact⟨ir,ir,λe c=>(by cases c),λi d=>(by cases d),mQC _,λh=>absurd h (by show ¬(1:Int)=4;decide),iX,iX,mQC _,mQC _⟩
 split
 .exact rl 2 (by decide) _ _ ir
 split
 .exact a.insert
 split
 .exact a.update
 rename_i b;split
 .exact rl 5 (by decide) _ _ (gU.name (gU.cd _ a)).1.bV.2
 split
 .exact a.choose
 split
 .exact rl 10 (by decide) _ _ ir
 split
 .split
  .exact rl 11 (by decide) _ _ ir
  exact rl 9 (by decide) _ _ ir
 exact rl k b _ _ ir
theorem dr.sE{x:aJ}(h:dr x)(s:FR):dr { x with sE:=s }:=⟨h.on,h.bV,h.exprs,h.items,h.len,h.names,h.group,h.order,h.aJU,h.dZG⟩
theorem eJP(s:ByteArray):dr (cL ao s).1:=by
 unfold cL;have w:=aQN s;generalize iq s=W at *;show dr (if W.2≠0 then(({}:aJ),W.2)else _).1;split
 .exact BJ
 have h:=gU.stmt (p:=⟨W.1,0,[]⟩) ⟨w,ir⟩;generalize PS.stmt ao ⟨W.1,0,[]⟩=R at *;have key:∀p:PS,dr (if p.err=0/\R.1.1.kind=1 then
  match jR R.1.1.sE.cols R.1.2 0 with
  |some k=>({ R.1.1 with sE:={ R.1.1.sE with key:=(k:Int) } },(0:Int))
  |none=>({},(2:Int))
  else if p.err≠0 then({},p.err)else(R.1.1,0)).1:=λp=>by
  split
  .split
   .exact h.sE _
   exact BJ
  split
  .exact BJ
  exact h
 exact key _
theorem HI:∀(k:Nat) (t:By) (l:List Wd),(nK k t l).1=[]\/∃m,(nK k t l).1=l++m
 |0,t,l=>.inr ⟨[],by rw[mXb];rfl⟩
 |k+1,t,l=>by
  unfold nK;split
  .exact .inr ⟨_,rfl⟩
  rename_i c r;split
  .exact HI k r l
  generalize ll c r=N;obtain⟨p,e⟩:=N;show(if e=0 then nK k p.2 (l++[p.1])else([],e):List Wd×Int).1=[]\/∃m,(if e=0 then nK k p.2 (l++[p.1])else([],e):List Wd×Int).1=l++m;split
  .rcases HI k p.2 (l++[p.1])with h| ⟨m,h⟩
   .exact .inl h
   exact .inr ⟨p.1::m,by rw[h];simp⟩
  exact .inl rfl
theorem bKB{c:UInt8}(n:By){t:By}(a:isLet c=true)(d:n.all uN=true)(f:Bd uN t=true)(b:decide (aM (c::n)=aM [99,114,101,97,116,101])=false):bJ (aM (c::(n++t)))=true:=by
 have l:=xO f (c::n) (by
  rw[mXY,d,mZK];unfold uN;rw[a];rfl)
 rw[mJo]at l;have hx:ll c (n++t)=((⟨1,0,aM (c::n)⟩,t),0):=by unfold ll;rw[a,l];show((((⟨1,0,aM (((c::n)++t).take (c::n).length)⟩:Wd),((c::n)++t).drop (c::n).length),(0:Int)):(Wd×By)×Int)=_;rw[mKb,mJF]
 have key:(iq (aM (c::(n++t)))).1=[]\/∃m,(iq (aM (c::(n++t)))).1=⟨1,0,aM (c::n)⟩::m:=by
  unfold iq;split
  .exact .inl rfl
  show(nK ((aM (c::(n++t))).size+1) (c::(n++t)) []).1=[]\/∃m,(nK ((aM (c::(n++t))).size+1) (c::(n++t)) []).1=⟨1,0,aM (c::n)⟩::m;have e:nK ((aM (c::(n++t))).size+1) (c::(n++t)) []=nK (aM (c::(n++t))).size t [⟨1,0,aM (c::n)⟩]:=by
   show(match Ck c with
    |true=>nK (aM (c::(n++t))).size (n++t) []
    |false=>match ll c (n++t)with
     | (p,e)=>if e=0 then nK (aM (c::(n++t))).size p.2 ([]++[p.1])else([],e))=_
   rw[aJr a,hx];rfl
  rw[e];rcases HI (aM (c::(n++t))).size t [⟨1,0,aM (c::n)⟩]with h| ⟨m,h⟩
  .exact .inl h
  exact .inr ⟨m,h⟩
 unfold bJ;rcases key with h| ⟨m,h⟩
 .rw[h]
 rw[h];show(!decide (aM (c::n)=aM [99,114,101,97,116,101]))=true;rw[b];rfl
set_option maxHeartbeats 16000000
open Go.Sx Go.Proofs
def ee(s:ByteArray):Prop:=∃(c:UInt8) (n t:By),s=aM (c::(n++(32::t)))/\isLet c=true/\n.all uN=true/\decide (aM (c::n)=aM [99,114,101,97,116,101])=false
theorem ee.nc(h:ee s):bJ s=true:=by obtain⟨c,n,t,rfl,a,b,d⟩:=h;exact bKB n a b rfl d
theorem ee.cat{A:Ar}[e:bM A]{x:ByteArray}(h:ee s):ee (A .cat s x):=by
 obtain⟨c,n,t,rfl,a,b,d⟩:=h;refine⟨c,n,t++x.data.toList,?_,a,b,d⟩;have hx:x=aM x.data.toList:=by simp[aM]
 rw[e.cat];conv=>lhs;rw[hx]
 refine(py _ _).trans ?_;simp
theorem td:ee ⟨#[105,110,115,101,114,116,32,105,110,116,111,32]⟩:=⟨105,[110,115,101,114,116],[105,110,116,111,32],rfl,rfl,rfl,by decide⟩
theorem ta:ee ⟨#[117,112,100,97,116,101,32]⟩:=⟨117,[112,100,97,116,101],[],rfl,rfl,rfl,by decide⟩
theorem sY:ee ⟨#[100,101,108,101,116,101,32,102,114,111,109,32]⟩:=⟨100,[101,108,101,116,101],[102,114,111,109,32],rfl,rfl,rfl,by decide⟩
theorem sX:ee ⟨#[115,101,108,101,99,116,32,42,32,102,114,111,109,32]⟩:=⟨115,[101,108,101,99,116],[42,32,102,114,111,109,32],rfl,rfl,rfl,by decide⟩
theorem sS:ee ⟨#[115,101,108,101,99,116,32,97,44,32,98,32,102,114,111,109,32]⟩:=⟨115,[101,108,101,99,116],[97,44,32,98,32,102,114,111,109,32],rfl,rfl,rfl,by decide⟩
theorem sQ:ee ⟨#[115,101,108,101,99,116,32,99,111,117,110,116,40,42,41,44,32,115,117,109,40,97,41,44,32,109,105,110,40,98,41,44,32,109,97,120,40,97,41,32,102,114,111,109,32]⟩:=⟨115,[101,108,101,99,116],[99,111,117,110,116,40,42,41,44,32,115,117,109,40,97,41,44,32,109,105,110,40,98,41,44,32,109,97,120,40,97,41,32,102,114,111,109,32],rfl,rfl,rfl,by decide⟩
theorem sP:ee ⟨#[115,101,108,101,99,116,32,98,44,32,99,111,117,110,116,40,42,41,32,102,114,111,109,32]⟩:=⟨115,[101,108,101,99,116],[98,44,32,99,111,117,110,116,40,42,41,32,102,114,111,109,32],rfl,rfl,rfl,by decide⟩
theorem sL:ee ⟨#[115,101,108,101,99,116,32]⟩:=⟨115,[101,108,101,99,116],[],rfl,rfl,rfl,by decide⟩
theorem sI:ee ⟨#[115,101,108,101,99,116,32,97,32,42,32]⟩:=⟨115,[101,108,101,99,116],[97,32,42,32],rfl,rfl,rfl,by decide⟩
theorem ma:ee ⟨#[115,97,118,101,112,111,105,110,116,32,115]⟩:=⟨115,[97,118,101,112,111,105,110,116],[115],rfl,rfl,rfl,by decide⟩
theorem lX:ee ⟨#[114,111,108,108,98,97,99,107,32,116,111,32,115]⟩:=⟨114,[111,108,108,98,97,99,107],[116,111,32,115],rfl,rfl,rfl,by decide⟩
theorem qq:ee ⟨#[115,101,108,101,99,116,32,109,97,120,40,97,41,32,102,114,111,109,32]⟩:=⟨115,[101,108,101,99,116],[109,97,120,40,97,41,32,102,114,111,109,32],rfl,rfl,rfl,by decide⟩
theorem pr:ee ⟨#[115,101,108,101,99,116,32,99,32,102,114,111,109,32]⟩:=⟨115,[101,108,101,99,116],[99,32,102,114,111,109,32],rfl,rfl,rfl,by decide⟩
theorem sG:bJ ⟨#[114,111,108,108,98,97,99,107]⟩=true:=by kernel_rfl
theorem fC{t:Nat}(h:dXv[t]? =some s):s.data.size=2:=by
 match t with
 |0=>cases h;rfl
 |1=>cases h;rfl
 |2=>cases h;rfl
 |t+3=>cases h
theorem mu{k:Nat}(h:k<=2^40):((k:Nat):Int)<=2^62:=by omega
theorem hG(zn a b:Int)(h:ad)(hk:∀t h',Le h h'->bJ t=true->k (.string t) h'):Ct 22 [.int .i64 zn,.int .i64 a,.int .i64 b] h k:=by
 refine mQx jKX Tryz.func22 λA hA=>?_;cbv;intro C P f1 e1;have l1:Le h P:=by rw[e1];exact Le.set f1
 have s1:Sl 9 dX P (.slice (some ⟨C,0,none⟩) 3 3) bJz:=sZ (l:=bJz) ((congrFun e1 C).trans ae) (by decide);clear e1;cbv;refine uv b 3 (by decide) (by decide) P (λz t1 jV RC wE=>?_);have rQ:0<=z/\z<((3:Nat):Int):=jV.ix wE;obtain⟨nm,wD⟩:=aE (xs:=bJz) (i:=t1) wE;have U:=jV.eq;cbv;refine⟨⟨rfl,rQ⟩,?_⟩;cbv;refine s1.load wD U (λcs d=>?_);replace d:cs=[.string nm]:=d;subst d;cbv;intro Dz q f2 e2;have l2:Le P q:=by rw[e2];exact Le.set f2
 have s2:Sl 9 dX q (.slice (some ⟨Dz,0,none⟩) 3 3) dXv:=sZ (l:=dXv) ((congrFun e2 Dz).trans ae) (by decide);clear e2;cbv;refine uv b 3 (by decide) (by decide) q (λv t2 dL RB pz=>?_);have jo:0<=v/\v<((3:Nat):Int):=dL.ix pz;obtain⟨un,FC⟩:=aE (xs:=dXv) (i:=t2) pz;have FA:=dL.eq;cbv;refine⟨⟨rfl,jo⟩,?_⟩;cbv;refine s2.load FC FA (λcs d=>?_);replace d:cs=[.string un]:=d;subst d;cbv;refine uv a 30 (by decide) (by decide) q (λzx x D hx aj=>?_);have L:zx=(x:Int):=D.eq;cbv;refine yr x zx L (by omega) q (λh3 l3=>?_);obtain⟨xs,V⟩:∃xs,aM (dk x)=xs:=⟨_,rfl⟩;rw[V];cbv;refine uv b 30 (by decide) (by decide) h3 (λzy y B hy ag=>?_);have n:zy=(y:Int):=B.eq;cbv;refine yr y zy n (by omega) h3 (λh4 l4=>?_);obtain⟨ys,f⟩:∃ys,aM (dk y)=ys:=⟨_,rfl⟩;rw[f];have ak:xs.data.size<=3:=by have:=nL x (by omega);rw[<-ep,V]at this;exact this
 have aH:ys.data.size<=3:=by have:=nL y (by omega);rw[<-ep,f]at this;exact this
 have aK:nm.data.size=2:=by rw[aXB wD];rfl
 have tS:un.data.size=2:=fC FC;have Q:∀a b:ByteArray,(A .cat a b).size=a.size+b.size:=λa b=>IK a b;have sd:∀a b:ByteArray,(A .cat a b).data.size=a.data.size+b.data.size:=λa b=>IK a b;obtain⟨w1,EU⟩:∃c,A .cat ⟨#[32,119,104,101,114,101,32,97,32,61,32]⟩ xs=c:=⟨_,rfl⟩;obtain⟨R,vj⟩:∃c,A .cat ⟨#[32,119,104,101,114,101,32,97,32,62,32]⟩ xs=c:=⟨_,rfl⟩;obtain⟨w3,I⟩:∃c,A .cat R ⟨#[32,97,110,100,32,98,32,105,115,32,110,117,108,108]⟩=c:=⟨_,rfl⟩;obtain⟨S,j⟩:∃c,A .cat ⟨#[32,119,104,101,114,101,32,110,111,116,32,40,97,32,60,32]⟩ xs=c:=⟨_,rfl⟩;obtain⟨w5,s⟩:∃c,A .cat S ⟨#[41,32,111,114,32,98,32,61,32,39,99,39]⟩=c:=⟨_,rfl⟩;obtain⟨T,J⟩:∃c,A .cat ⟨#[32,119,104,101,114,101,32,97,32,43,32,49,32,60,61,32]⟩ xs=c:=⟨_,rfl⟩;obtain⟨w7,g⟩:∃c,A .cat T ⟨#[32,42,32,50]⟩=c:=⟨_,rfl⟩;have pk:xs.size<=3:=ak;have O:((11+xs.size:Nat):Int)<=2^62:=by omega
 have aw:w1.size=11+xs.size:=by rw[<-EU,Q];rfl
 have N:((11+xs.size:Nat):Int)<=2^62:=by omega
 have au:R.size=11+xs.size:=by rw[<-vj,Q];rfl
 have sB:w3.size=R.size+14:=by rw[<-I,Q];rfl
 have M:((R.size+14:Nat):Int)<=2^62:=by omega
 have H:((16+xs.size:Nat):Int)<=2^62:=by omega
 have an:S.size=16+xs.size:=by rw[<-j,Q];rfl
 have sA:w5.size=S.size+12:=by rw[<-s,Q];rfl
 have G:((S.size+12:Nat):Int)<=2^62:=by omega
 have F:((16+xs.size:Nat):Int)<=2^62:=by omega
 have al:T.size=16+xs.size:=by rw[<-J,Q];rfl
 have sg:w7.size=T.size+4:=by rw[<-g,Q];rfl
 have E:((T.size+4:Nat):Int)<=2^62:=by omega
 obtain⟨W,K⟩:∃W:List ByteArray,W=[⟨#[]⟩,w1,w3,w5,w7,⟨#[32,119,104,101,114,101,32,98,32,60,32,39,100,39]⟩]:=⟨_,rfl⟩;have qT:∀w∈W,w.data.size<=60:=λw hw=>by
  rw[K]at hw;simp only[mQI,mZY,or_false]at hw;rcases hw with rfl|rfl|rfl|rfl|rfl|rfl
  .exact mQC _
  .show w.size<=60;omega
  .show w.size<=60;omega
  .show w.size<=60;omega
  .show w.size<=60;omega
  show 14<=60;omega
 obtain⟨zq,r⟩:∃zq,A .bB .quo .i64 a 7=zq:=⟨_,rfl⟩;clear V f L n aw au sB an sA al sg pk wD FC;cbv;refine⟨O,?_⟩;cbv;rw[EU];refine⟨N,?_⟩;cbv;rw[vj];refine⟨M,?_⟩;cbv;rw[I];refine⟨H,?_⟩;cbv;rw[j];refine⟨G,?_⟩;cbv;rw[s];refine⟨F,?_⟩;cbv;rw[J];refine⟨E,?_⟩;cbv;rw[g];intro p e f5 e5;have l5:Le h4 e:=by rw[e5];exact Le.set f5
 have s5:Sl 9 dX e (.slice (some ⟨p,0,none⟩) 6 6) W:=by rw[K];exact sZ (l:=[⟨#[]⟩,w1,w3,w5,w7,⟨#[32,119,104,101,114,101,32,98,32,60,32,39,100,39]⟩]) ((congrFun e5 p).trans ae) (by simp)
 have Y:W.length=6:=by rw[K];rfl
 clear e5 K O N M H G F E EU vj I j s J g;cbv;refine⟨by decide,?_⟩;cbv;rw[r];refine uv zq 6 (by decide) (by decide) e (λu t3 ui YM Z=>?_);have sK:0<=u/\u<((6:Nat):Int):=ui.ix Z;obtain⟨ww,o⟩:=aE (xs:=W) (i:=t3) (by rw[Y];exact Z);have tR:=qT ww (mQz o);have Te:=ui.eq;clear qT;cbv;refine⟨⟨rfl,sK⟩,?_⟩;cbv;refine s5.load o Te (λcs d=>?_);replace d:cs=[.string ww]:=d;subst d;cbv;refine uv zn 24 (by decide) (by decide) e (λzm m ab hm sh=>?_);have lt:Le h e:=(((l1.trans l2).trans l3).trans l4).trans l5;have af:=λt h' l nc=>hk t h' (lt.trans l) nc;have mw:=λt nc=>hk t e lt nc;clear s5 s1 s2 D hx aj B hy ag jV RC wE rQ U dL RB pz jo FA ui YM Z sK Te o Y ab hm sh hk lt l1 l2 l3 l4 l5 f1 f2 f5 r;clear W;cbv;repeat' (first|(refine bh (λhc=>?_) (λhc=>?_)<;>(try rw[hc])<;>cbv)|(refine⟨mu (by simp only[ByteArray.size,sd,List.size_toArray,mQM,mQS];omega),?_⟩;cbv))
 all_goals first
  | (refine mw _ ?_;first|exact sG|exact wy| (refine ee.nc ?_;repeat (first|exact td|exact ta|exact sY|exact sX|exact sS|exact sQ|exact sP|exact wL|exact sL|exact sI|exact ma|exact lX|exact qq|exact pr|refine ee.cat ?_)))
  | (
   refine uv a 3 (by decide) (by decide) e (λar dd te _ az=>?_)
   have qz:=te.eq;cbv;refine yr dd ar qz (by omega) e (λh6 l6=>?_);obtain⟨ds,X⟩:∃ds,aM (dk dd)=ds:=⟨_,rfl⟩;have ub:ds.data.size<=3:=by have:=nL dd (by omega);rw[<-ep,X]at this;exact this
   rw[X];clear X;cbv;refine⟨mu (by simp only[ByteArray.size,sd,List.size_toArray,mQM,mQS];omega),?_⟩;cbv;exact af _ h6 l6 (ee.nc (ee.cat (by first|exact ma|exact lX))))
theorem ei(d:DB)(s:Int)(st:aJ):cJf d s st:=λy _=>⟨λg=>Er g,λ_=>eKz⟩
theorem eT(d:DB)(s:Int)(st:aJ):cJg d s st:=λ{h p} q hx {n} e m x {k} a=>by
 by_cases j:st.join=b0
 .exact Hf j (ei d s st) q hx e m x a
 exact Sq j (ei d s st) q hx e m x a
theorem iE.all(d:DB)(s:Int)(st:aJ):iE d s st:=⟨λ_=>eT d s st,λh=>eJu h,λ_=>dQg⟩
theorem kz(a:wK)(h:ad)(c:∀h' v st,Le h h'->aQG h' v st->dr st->k v h'):Ct 9 [.agg #[.int .i64 a.s,.int .i64 a.n,.int .i64 a.a,.int .i64 a.b]] h k:=by obtain⟨as_,n,u,d⟩:=a;refine mQx T9 Tryz.func9 λA H=>?_;cbv;refine hG n u d h (λt G l nc=>?_);have hx:=eJP t;obtain⟨D,b⟩:∃D,cL ao t=D:=⟨_,rfl⟩;rw[b]at hx;cbv;refine UH nc b (λg w j q=>?_);have e:=q;obtain⟨p,J,z,r,K,B,s,L,C,x,M,E,y,N,F,W,I,T,i,-⟩:=e.out;subst i;have f:=c g _ _ (l.trans j) q hx;clear b hx c q e nc;obtain⟨m,o⟩:=D;cbv;exact f
end Go.S
