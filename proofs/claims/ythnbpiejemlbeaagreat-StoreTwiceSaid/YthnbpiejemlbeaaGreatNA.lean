import Derived.Test.YthnbpiejemlbeaaGreatMB
set_option linter.all false
set_option maxRecDepth 100000
set_option maxHeartbeats 8000000
namespace Go.S
open Go.Sx Go.Proofs
variable {b:Type}{d:DB}{s:Int}{i n:Nat}{r:Row}{p:b->Bool}{w:eY}
theorem SC.aQA(q:SC d)(h:d.holds.length<=n)(W:d.waits.length<=n):sa n d:=by
 refine⟨?_,q.gL,q.ov,λt a=>?_,h,W,λx hx=>?_⟩
 .have:=q.tw.le;omega
 .have:=(q.tw.ok t a).2.1.le;omega
 obtain⟨w,b,e⟩:=q.hw x hx;have:=q.ov w b;omega
theorem Gf:∀a b c:List UInt8,Lib.compareBytes a b<0->Lib.compareBytes b c<0->Lib.compareBytes a c<0
 | [],_,[],d,h=>by
  rename_i b;cases b with
  |nil=>simp[Lib.compareBytes]at d
  |cons y b=>simp[Lib.compareBytes]at h
 | [],_,z::c,d,h=>by simp[Lib.compareBytes]
 |x::a,[],_,d,h=>by simp[Lib.compareBytes]at d
 |x::a,y::b,[],d,h=>by simp[Lib.compareBytes]at h
 |x::a,y::b,z::c,d,h=>by
  have i:=Gf a b c;unfold Lib.compareBytes at d h |-;have lt:∀p q:UInt8,p<q↔p.toNat<q.toNat:=λp q=>kQk;by_cases a1:x<y
  .rw[if_pos a1]at d;by_cases f:y<z
   .have:x<z:=by rw[lt]at a1 f |-;omega
    rw[if_pos this];decide
   rw[if_neg f]at h;by_cases g:z<y
   .rw[if_pos g]at h;exact absurd h (by decide)
   have:x<z:=by rw[lt]at a1 f g |-;omega
   rw[if_pos this];decide
  rw[if_neg a1]at d;by_cases a2:y<x
  .rw[if_pos a2]at d;exact absurd d (by decide)
  rw[if_neg a2]at d;have e:x=y:=by rw[lt]at a1 a2;exact kQA.1 (by omega)
  subst e;by_cases f:x<z
  .rw[if_pos f];decide
  rw[if_neg f]at h |-;by_cases g:z<x
  .rw[if_pos g]at h;exact absurd h (by decide)
  rw[if_neg g]at h |-;exact i d h
theorem Gg{a b c:ByteArray}(h:dA a b<0)(d:dA b c<0):dA a c<0:=by unfold dA at *;exact Gf _ _ _ h d
theorem IM{x:b}:∀ {l:List b},x∈l.takeWhile p->p x=true
 | [],h=>by cases h
 |y::r,h=>by
  cases a:p y with
  |true=>
   rw[kQP a]at h;rcases xl.1 h with rfl|h
   .exact a
   exact IM h
  |false=>rw[kXt (by rw[a];simp)]at h;cases h
theorem DD{x:b}:∀ {l:List b},l[(l.takeWhile p).length]? =some x->p x=false
 | [],h=>by simp at h
 |y::r,h=>by
  cases a:p y with
  |true=>rw[kQP a,wS]at h;exact DD (l:=r) (by simpa using h)
  |false=>rw[kXt (by rw[a];simp)]at h;simp at h;rw[<-h];exact a
theorem Ae{T:List ca}(h:T.Pairwise (λa b=>dA a.S.name b.S.name<0))(nm:ByteArray):
 dC (aS T nm)=cX T nm/\cX T nm<=T.length/\(∀t∈T.take (cX T nm),dA t.S.name nm<0)/\∀t∈T.drop (cX T nm),¬dA t.S.name nm<0:=by
 have hl:(aS T nm).length=T.length:=by simp[aS]
 have get:∀(j:Nat) (t:ca),T[j]? =some t->(aS T nm).getD j 0=dA t.S.name nm:=λj t c=>by
  rw[yz];unfold aS;rw[kS,c];rfl
 have K:cX T nm<=T.length:=(kXs _).length_le;have N:T.take (cX T nm)=T.takeWhile λt=>decide (dA t.S.name nm<0):=by unfold cX;exact(kXr.1 (kXq _)).symm
 have D:∀t∈T.take (cX T nm),dA t.S.name nm<0:=λt c=>by
  rw[N]at c;have:=IM c;exact lA this
 have Z:∀t,T[cX T nm]? =some t->¬dA t.S.name nm<0:=λt c=>by
  have:=DD (p:=λt:ca=>decide (dA t.S.name nm<0)) c;exact kz this
 have Q:∀(j:Nat) (t:ca),cX T nm<=j->T[j]? =some t->¬dA t.S.name nm<0:=λj t d c=>by
  rcases Nat.eq_or_lt_of_le d with e|U
  .subst e;exact Z t c
  have q:=(ff.1 c).1;obtain⟨i,g⟩:=cB T (cX T nm);intro W;have:=wL.1 h _ j (ff.1 g).1 q U;rw[(ff.1 g).2,(ff.1 c).2]at this;exact Z i g (Gg this W)
 refine⟨?_,K,D,λt c=>?_⟩
 .unfold dC;refine xJ _ _ (λj d=>?_) 0 _ (λj f k=>?_) (nr _) (by omega)
  .obtain⟨t,c⟩:=cB T j;rw[get j t c];exact D t (cK (by rw[qH,if_pos d];exact c))
  obtain⟨t,c⟩:=cB T j;rw[get j t c];have:=Q j t f c;omega
 obtain⟨j,d⟩:=rK c;rw[rB]at d;exact Q _ t (by omega) d
theorem PX{T:List ca}(h:T.Pairwise (λa b=>dA a.S.name b.S.name<0))(nm:ByteArray):iQ (aS T nm)=T.any (λt=>decide (t.S.name=nm)):=by
 cases d:T.any (λt=>decide (t.S.name=nm))with
 |true=>obtain⟨t,c,e⟩:=jKL.1 d;have e:=lA e;obtain⟨i,f⟩:=rK c;have:=(tH h f).2;rw[e]at this;exact this
 |false=>refine KI (λt c=>?_);have:=kQY.1 d t c;simpa using this
theorem Hg{W:List eY}(h:¬decide ((W.length:Int)>0)=true):W=[]:=by rw[decide_eq_true_iff]at h;exact kh (by omega)
theorem Ub(q:SC d){s:tE}(j:s.name≠yX->s.bB=bG/\s.key=0)(l:s.name.size<=12):SC (dv d s).1/\(dv d s).1.holds=d.holds/\(dv d s).1.waits=d.waits/\(dv d s).1.ai=d.ai:=by
 unfold dv;split
 .exact⟨q,rfl,rfl,rfl⟩
 split
 .exact⟨q,rfl,rfl,rfl⟩
 rename_i f;split
 .exact⟨q,rfl,rfl,rfl⟩
 rename_i c;split
 .exact⟨q,rfl,rfl,rfl⟩
 rename_i i;have c:d.ao.length<8:=by simp at c;omega
 have i:d.ai=[]:=Hg i;obtain⟨-,o,p,m⟩:=Ae q.tw.gL s.name;have J:TW (d.ao.take (cX d.ao s.name)++[(⟨s,[]⟩:ca)]++d.ao.drop (cX d.ao s.name)):=?_
 .exact⟨⟨J,q.gL,q.ov,λw g=>(by
   have g:w∈d.ai:=g;rw[i]at g;cases g),q.Oa,q.hu,q.hw,q.hc,q.lg⟩,rfl,rfl,rfl⟩
 refine⟨?_,λt h=>?_,?_⟩
 .show(d.ao.take (cX d.ao s.name)++[(⟨s,[]⟩:ca)]++d.ao.drop (cX d.ao s.name)).Pairwise _;have k:=q.tw.gL;rw[<-jKu (cX d.ao s.name) d.ao,jKE]at k;obtain⟨s1,s2,s3⟩:=k;rw[ym,jKE];refine⟨s1,?_,λa f b c=>?_⟩
  .rw[kXp,jKT];refine⟨λb c=>?_,s2⟩;have n:=m b c;rw[wJ];have S:dA b.S.name s.name≠0:=λe=>by
    have:=mi e;exact f (jKL.2 ⟨b,jKd c,ak this⟩)
   show - dA b.S.name s.name<0;omega
  rcases xl.1 (by simpa using c:b∈(⟨s,[]⟩:ca)::d.ao.drop (cX d.ao s.name))with rfl|c
  .exact p a f
  exact s3 a f b c
 .have h:t∈d.ao.take (cX d.ao s.name)++[(⟨s,[]⟩:ca)]++d.ao.drop (cX d.ao s.name):=h;rcases wy.1 h with h|h
  .rcases wy.1 h with h|h
   .exact q.tw.ok t (jKk h)
   simp at h;subst h;exact⟨j,SO.nil,l,λ_=>rfl⟩
  exact q.tw.ok t (jKd h)
 show(d.ao.take (cX d.ao s.name)++[(⟨s,[]⟩:ca)]++d.ao.drop (cX d.ao s.name)).length<=8;simp;omega
theorem aKe(q:SC d)(nm:ByteArray):SC (eD d nm).1/\(eD d nm).1.holds=d.holds/\(eD d nm).1.waits=d.waits/\(eD d nm).1.ai=d.ai:=by
 unfold eD;split
 .split
  .exact⟨q,rfl,rfl,rfl⟩
  rename_i c;have c:d.ai=[]:=Hg c;have k:=kQO d.ao (dC (aS d.ao nm));refine⟨⟨⟨q.tw.gL.sublist k,λt a=>q.tw.ok t (k.subset a),jKl k.length_le q.tw.le⟩,q.gL,q.ov,λw h=>?_,q.Oa,q.hu,q.hw,q.hc,q.lg⟩,rfl,rfl,rfl⟩;have h:w∈d.ai:=h;rw[c]at h;cases h
 exact⟨q,rfl,rfl,rfl⟩
def Mo(d:DB):Prop:=∀w∈d.ai,w.marks.Pairwise (λa b=>a.at_<=b.at_)
structure SJ(n:Nat)(d:DB):Prop where
 sc:SC d
 mo:Mo d
 hn:d.holds.length<=n
 wn:d.waits.length<=n
theorem SJ.aQA(q:SJ n d):sa n d:=q.sc.aQA q.hn q.wn
theorem SJ.le{m:Nat}(q:SJ n d)(h:n<=m):SJ m d:=⟨q.sc,q.mo,jKl q.hn h,jKl q.wn h⟩
theorem DE(q:SJ n d)(hd:bU)(s:-2^63<=hd.s/\hd.s<2^63):SJ (n+1) (cA d hd).1:=by have h:=oD q.aQA hd s;exact⟨(LQ q.sc hd s).1,λw a=>q.mo w (h.sub.subset a),h.ok.holds,h.ok.waits⟩
theorem Wi(q:SJ n d)(h:-2^63<=s/\s<2^63):SJ n (cN d s).1:=by
 unfold cN;split
 .exact⟨Eb q.sc h,λw a=>q.mo w ((sV _ _).subset a),jKl (gK _ _) q.hn,jKl (gK _ _) q.wn⟩
 exact q
theorem Sv(q:SJ n d)(h:-2^63<=s/\s<2^63):SJ n (bZ d s).1:=by
 unfold bZ;split
 .exact⟨YY q.sc h q.sc.tw rfl _,λw a=>q.mo w ((sV _ _).subset a),jKl (gK _ _) q.hn,jKl (gK _ _) q.wn⟩
 exact q
theorem Su(q:SJ n d){s:tE}(h:s.name≠yX->s.bB=bG/\s.key=0)(f:s.name.size<=12):SJ n (dv d s).1:=by obtain⟨a,b,c,e⟩:=Ub q.sc h f;exact⟨a,λw g=>q.mo w (by rw[<-e];exact g),by rw[b];exact q.hn,by rw[c];exact q.wn⟩
theorem aXB(q:SJ n d)(nm:ByteArray):SJ n (eD d nm).1:=by obtain⟨a,b,c,e⟩:=aKe q.sc nm;exact⟨a,λw h=>q.mo w (by rw[<-e];exact h),by rw[b];exact q.hn,by rw[c];exact q.wn⟩
theorem Uu(I:SI d)(f:0<=s/\s<8)(c:iQ (bW d.ai s)=false):∃i,dC (bW d.ai s)=i/\i<=d.ai.length/\(∀w∈d.ai.take i,w.s<s)/\∀w∈d.ai.drop i,s<w.s:=by
 obtain⟨i,b⟩:∃i,i=(d.ai.takeWhile λw=>decide (w.s<s)).length:=⟨_,rfl⟩;have l:i<=d.ai.length:=by rw[b];exact(kXs _).length_le
 have N:d.ai.take i=d.ai.takeWhile λw=>decide (w.s<s):=by rw[b];exact(kXr.1 (kXq _)).symm
 have D:∀w∈d.ai.take i,w.s<s:=λw h=>by
  rw[N]at h;have:=IM h;exact lA this
 have g:∀w,d.ai[i]? =some w->¬w.s<s:=λw h=>by
  rw[b]at h;have:=DD (p:=λw:eY=>decide (w.s<s)) h;exact kz this
 have S:∀w∈d.ai,w.s≠s:=λw h e=>by
  have:=(lF I.gL I.ov (s:=s) (by omega)).2 ⟨w,h,e⟩;rw[c]at this;cases this
 refine⟨i,Kt I f l (λj w a h=>D w (cK (by rw[qH,if_pos a];exact h))) g,l,D,λw h=>?_⟩;obtain⟨j,a⟩:=rK h;rw[rB]at a;obtain⟨w0,L⟩:=aJ (xs:=d.ai) (i:=i) (by have:=(ff.1 a).1;omega);have h0:=g w0 L;have k:=S w0 (cK L);cases j with
 |zero=>rw[kQt,L]at a;cases a;omega
 |succ j=>have:=wL.1 I.gL i (i+(j+1)) (ff.1 L).1 (ff.1 a).1 (by omega);rw[(ff.1 L).2,(ff.1 a).2]at this;omega
theorem Wj(q:SJ n d)(u:n<=2^17)(s:Int):SJ n (iY d s).1:=by
 unfold iY jl;split
 .exact q
 rename_i l;have k:0<=s/\s<8:=by simp at l;omega
 split
 .exact q
 rename_i o;have f:iQ (bW d.ai s)=false:=by simpa using o
 obtain⟨i,r,t,D,Q⟩:=Uu (q.sc.si q.aQA u) k f;rw[r];have m:∀w,w∈d.ai.take i++[(⟨s,[],[]⟩:eY)]++d.ai.drop i->w∈d.ai\/w=⟨s,[],[]⟩:=λw e=>by
  rcases wy.1 e with e|e
  .rcases wy.1 e with e|e
   .exact .inl (jKk e)
   simp at e;exact .inr e
  exact .inl (jKd e)
 have C:∀w,w∈d.ai->w∈d.ai.take i++[(⟨s,[],[]⟩:eY)]++d.ai.drop i:=λw e=>by
  rw[<-jKu i d.ai]at e;rcases wy.1 e with e|e
  .exact wy.2 (.inl (wy.2 (.inl e)))
  exact wy.2 (.inr e)
 refine⟨⟨q.sc.tw,?_,λw e=>?_,λw e=>?_,λw e=>?_,q.sc.hu,λx hx=>?_,q.sc.hc,λw e c j=>?_⟩,λw e=>?_,q.hn,q.wn⟩
 .show(d.ai.take i++[(⟨s,[],[]⟩:eY)]++d.ai.drop i).Pairwise _;have A:=q.sc.gL;rw[<-jKu i d.ai,jKE]at A;obtain⟨s1,s2,s3⟩:=A;rw[ym,jKE];refine⟨s1,?_,λa g b f=>?_⟩
  .rw[kXp,jKT];exact⟨λb f=>Q b f,s2⟩
  rcases xl.1 (by simpa using f:b∈(⟨s,[],[]⟩:eY)::d.ai.drop i)with rfl|f
  .exact D a g
  exact s3 a g b f
 .rcases m w e with h|rfl
  .exact q.sc.ov w h
  exact k
 .rcases m w e with h|rfl
  .exact q.sc.log w h
  exact⟨λx hx=>(by cases hx),by simp⟩
 .rcases m w e with h|rfl
  .exact q.sc.Oa w h
  exact⟨by simp,λx hx=>(by cases hx)⟩
 .obtain⟨w,e,p⟩:=q.sc.hw x hx;exact⟨w,C w e,p⟩
 .rcases m w e with h|rfl
  .exact q.sc.lg w h c j
  cases j
 rcases m w e with h|rfl
 .exact q.mo w h
 exact List.Pairwise.nil
theorem BC{w':eY}(f:d.ai[i]? =some w)(s:w'.s=w.s):(∀x∈d.ai.set i w',x∈d.ai\/x=w')/\(∀x∈d.ai,∃y∈d.ai.set i w',y.s=x.s)/\((d.ai.Pairwise (λa b=>a.s<b.s))->(d.ai.set i w').Pairwise (λa b=>a.s<b.s)):=by
 have v:=(ff.1 f).1;refine⟨λx hx=>jKs hx,λx hx=>?_,λh=>?_⟩
 .obtain⟨j,c⟩:=rK hx;by_cases X:i=j
  .subst X;rw[f]at c;cases c;exact⟨w',jKA.2 ⟨i,jKx v⟩,s⟩
  exact⟨x,jKA.2 ⟨j,by rw[kQK X];exact c⟩,rfl⟩
 rw[wL];have e:∀j (c:j<(d.ai.set i w').length),(d.ai.set i w')[j].s=(d.ai[j]'(by simpa using c)).s:=λj c=>by
  rw[kQB];split
  .rename_i e;subst e;rw[s,<-(ff.1 f).2]
  rfl
 intro a b g k Y;rw[e a g,e b k];exact wL.1 h a b _ _ Y
theorem Iu{hd:bU}{l:DB}{j:Nat}{t s:ca}(g:Bo n hd l i w j t)(r:Mo l)(hx:hd.x=true)(v:hd.table≠yX)(S:s.S=t.S)(E:SO s.rows){x:cV}(e1:x.table=hd.table)(A:fY x.row)(B:x.op=1\/x.op=2)(hl:w.log.length<60):
 SJ (n+1) ⟨l.ao.set j s,l.ai.set i ⟨w.s,w.log++[x],w.marks⟩,l.holds,l.waits⟩:=by
 have q:=g.sc;have Q:(l.ao.set j s).map (·.S)=l.ao.map (·.S):=by
  apply yr;intro k;rw[kS,kS,VS];split
  .rename_i e;subst e;rw[g.tj];have:=(ff.1 g.tj).1;simp[this,S]
  rfl
 obtain⟨p,G,I⟩:=BC (w':=⟨w.s,w.log++[x],w.marks⟩) g.wi rfl;have J:=cK g.wi;refine⟨⟨q.tw.set g.tj (by rw[g.tn];exact v) S E,I q.gL,λy f=>?_,λy f=>?_,λy f=>?_,q.hu,λz d=>?_,q.hc,λy f c o=>?_⟩,λy f=>?_,g.ok.holds,g.ok.waits⟩
 .rcases p y f with h|rfl
  .exact q.ov y h
  exact q.ov w J
 .rcases p y f with h|rfl
  .obtain⟨a,b⟩:=q.log y h;exact⟨λz d=>(a z d).map Q,b⟩
  obtain⟨a,b⟩:=q.log w J;refine⟨λz d=>?_,by simp;omega⟩;rcases wy.1 d with d|d
  .exact(a z d).map Q
  simp at d;subst d;exact Bp.map ⟨A,B,⟨t,cK g.tj,by rw[e1];exact g.tn⟩,by rw[e1];exact v⟩ Q
 .rcases p y f with h|rfl
  .exact q.Oa y h
  obtain⟨a,b⟩:=q.Oa w J;refine⟨a,λm r=>?_⟩;obtain⟨k,C,K⟩:=b m r;exact⟨k,C,by simp;omega⟩
 .obtain⟨y,f,D⟩:=q.hw z d;obtain⟨y2,F,H⟩:=G y f;exact⟨y2,F,H.trans D⟩
 .rcases p y f with h|rfl
  .exact q.lg y h c o
  rcases wy.1 o with o|o
  .exact q.lg w J c o
  simp at o;subst o;obtain⟨z,d,a1,a2,u⟩:=g.hl;exact⟨z,d,a1.trans g.ws.symm,by rw[a2,e1],by rw[hx]at u;simpa using u⟩
 rcases p y f with h|rfl
 .exact r y h
 exact r w J
theorem aXp{S:tE}(a:S.bB=bG)(b:S.key=0){R:List Row}(h:SO R)(d:fY r\/r.length≠2){T:ca×Int}(c:bK ⟨S,R⟩ r=T):T.1.S=S/\SO T.1.rows:=by subst c;exact⟨lG _ _,PR a b h d⟩
theorem Wh(q:SJ n d)(s:Int)(nm:ByteArray)(t:nm≠yX)(f:-2^63<=s/\s<2^63)(c:fY r\/r.length≠2):SJ (n+1) (px d s nm r).1:=by
 have h:=DE q ⟨s,nm,true⟩ f;obtain⟨⟨u,e⟩,H⟩:∃X,cA d ⟨s,nm,true⟩=X:=⟨_,rfl⟩;rw[H]at h;by_cases b:e=0
 .subst b;obtain⟨i,w,j,⟨S,R⟩,g⟩:=mQ q.sc q.aQA f H;obtain⟨x,y⟩:=HC H g t c (D:=px d s nm r) rfl;obtain⟨l,p,-⟩:=g.sc.tw.ok _ (cK g.tj);obtain⟨m,o⟩:=l (by rw[g.tn];exact t);by_cases M:(w.log.length:Int)>=60
  .rw[x M];exact h
  obtain⟨T,a⟩:∃T,bK ⟨S,R⟩ r=T:=⟨_,rfl⟩;obtain⟨z,A⟩:=y M T a;obtain⟨B,C⟩:=aXp m o p c a;by_cases O:T.2=0
  .obtain⟨k,v⟩:=A O;rw[v];exact Iu g h.mo rfl t B C rfl k (.inl rfl) (by omega)
  rw[z O];exact h
 have:px d s nm r=(u,e):=mV H b _;rw[this];exact h
theorem aXy(q:SJ n d)(s:Int)(nm:ByteArray)(t:nm≠yX)(a:Int)(f:-2^63<=s/\s<2^63):SJ (n+1) (mE d s nm ⟨2,a,dZ⟩).1:=by
 have h:=DE q ⟨s,nm,true⟩ f;obtain⟨⟨r,e⟩,H⟩:∃X,cA d ⟨s,nm,true⟩=X:=⟨_,rfl⟩;rw[H]at h;by_cases c:e=0
 .subst c;obtain⟨i,w,j,⟨S,R⟩,g⟩:=mQ q.sc q.aQA f H;obtain⟨v,x⟩:=EA H g (a:=a) t (D:=mE d s nm ⟨2,a,dZ⟩) rfl;obtain⟨l,p,-⟩:=g.sc.tw.ok _ (cK g.tj);obtain⟨F,m⟩:=l (by rw[g.tn];exact t);cases o:S.only with
  |true=>rw[v o];exact h
  |false=>
   obtain⟨y,z⟩:=x o;by_cases M:(w.log.length:Int)>=60
   .rw[y M];exact h
   obtain⟨T,b⟩:∃T,bE ⟨S,R⟩ ⟨2,a,dZ⟩=T:=⟨_,rfl⟩;obtain⟨A,B⟩:=z M T b;have C:T.1.S=S:=by rw[<-b];exact kR _ _
   have E:SO T.1.rows:=by rw[<-b];exact KD m p a
   by_cases O:T.2.2=0
   .obtain⟨k,u⟩:=B O;rw[u];exact Iu g h.mo rfl t C E rfl k (.inr rfl) (by omega)
   rw[A O];exact h
 have:mE d s nm ⟨2,a,dZ⟩=(r,e):=mV H c _;rw[this];exact h
theorem aXA(q:SJ n d)(s:Int)(nm:ByteArray)(a:-2^63<=s/\s<2^63):SJ (n+1) (rj d s nm).1:=by have h:=DE q ⟨s,nm,false⟩ a;unfold rj;split<;>exact h
theorem Ku(q:SC d)(a:-2^63<=s/\s<2^63)(h:iQ (bW d.ai s)=true):∃w,d.ai[dC (bW d.ai s)]? =some w/\w.s=s:=wQ q.ov a h
theorem aXz(q:SJ n d)(s:Int)(nm:ByteArray)(u:-2^63<=s/\s<2^63):SJ n (lh d s nm).1:=by
 unfold lh;split
 .rename_i j;obtain⟨w,l,p⟩:=Ku q.sc u j;split
  .exact q
  rw[l];simp only;split
  .exact q
  rename_i g;have g:w.marks.length<10:=by simp at g;omega
  obtain⟨i,x,A⟩:=BC (w':=⟨w.s,w.log,w.marks++[⟨nm,(w.log.length:Int)⟩]⟩) l rfl;have J:=cK l;have e:=q.sc;obtain⟨E,r⟩:=e.Oa w J;refine⟨⟨e.tw,A e.gL,λy f=>?_,λy f=>?_,λy f=>?_,e.hu,λz v=>?_,e.hc,λy f c o=>?_⟩,λy f=>?_,q.hn,q.wn⟩
  .rcases i y f with h|rfl
   .exact e.ov y h
   exact e.ov w J
  .rcases i y f with h|rfl
   .exact e.log y h
   exact e.log w J
  .rcases i y f with h|rfl
   .exact e.Oa y h
   refine⟨by simp;omega,λm g=>?_⟩;rcases wy.1 g with g|g
   .exact r m g
   simp at g;subst g;exact⟨_,rfl,kB _⟩
  .obtain⟨y,f,p⟩:=e.hw z v;obtain⟨y2,B,H⟩:=x y f;exact⟨y2,B,H.trans p⟩
  .rcases i y f with h|rfl
   .exact e.lg y h c o
   exact e.lg w J c o
  rcases i y f with h|rfl
  .exact q.mo y h
  show(w.marks++[_]).Pairwise _;rw[jKE];refine⟨q.mo w J,kQv _ _,λa t b j=>?_⟩;simp at j;subst j;obtain⟨k,C,D⟩:=r a t;show a.at_<=(w.log.length:Int);omega
 exact q
theorem Ob{l:List mD}{nm:ByteArray}:∀ {i k:Nat},xj l nm i=some k->k<i/\k<l.length
 |0,k,h=>by cases h
 |i+1,k,h=>by
  unfold xj at h;split at h
  .rename_i m a;split at h
   .cases h;exact⟨by omega,(ff.1 a).1⟩
   have:=Ob h;exact⟨by omega,this.2⟩
  have:=Ob h;exact⟨by omega,this.2⟩
theorem aXC(q:SJ n d)(s:Int)(nm:ByteArray)(L:-2^63<=s/\s<2^63):SJ n (mq d s nm).1:=by
 unfold mq;split
 .rename_i F;obtain⟨w,v,B⟩:=Ku q.sc L F;rw[v];simp only;split
  .rename_i k H;obtain⟨V,M⟩:=Ob H;obtain⟨D,K⟩:=aJ (xs:=w.marks) (i:=k) M;have J:=cK v;have f:=q.sc;obtain⟨X,C⟩:=f.Oa w J;obtain⟨a,Q,E⟩:=C D (cK K);have G:fF (((w.marks[k]?).map (·.at_)).getD 0) w.log.length=a:=by rw[K];unfold fF;simp[Q];omega
   rw[G];obtain⟨r,S,T⟩:=BC (w':=⟨w.s,w.log.take a,w.marks.take (k+1)⟩) v rfl;have u:=zY f.tw (l:=w.log.drop a) (λx hx=>(f.log w J).1 x (jKd hx));have N:=wT d.ao (w.log.drop a);refine⟨⟨u,T f.gL,λy g=>?_,λy g=>?_,λy g=>?_,f.hu,λz p=>?_,f.hc,λy g c A=>?_⟩,λy g=>?_,q.hn,q.wn⟩
   .rcases r y g with h|rfl
    .exact f.ov y h
    exact f.ov w J
   .rcases r y g with h|rfl
    .obtain⟨a1,a2⟩:=f.log y h;exact⟨λz p=>(a1 z p).map N,a2⟩
    obtain⟨a1,a2⟩:=f.log w J;exact⟨λz p=>(a1 z (jKk p)).map N,by simp;omega⟩
   .rcases r y g with h|rfl
    .exact f.Oa y h
    refine⟨by simp;omega,λm t=>?_⟩;have t:m∈w.marks.take (k+1):=t;obtain⟨b,W,Z⟩:=C m (jKk t);refine⟨b,W,?_⟩;have I:m.at_<=D.at_:=by
     obtain⟨j,o⟩:=rK t;have O:=(ff.1 o).1;rw[eA]at O;rw[qH,if_pos (by omega)]at o;rcases Nat.eq_or_lt_of_le (show j<=k by omega)with e|U
     .subst e;rw[K]at o;cases o;exact jKt _
     have:=wL.1 (q.mo w J) j k (ff.1 o).1 (ff.1 K).1 U;rw[(ff.1 o).2,(ff.1 K).2]at this;exact this
    show b<=(w.log.take a).length;rw[eA];omega
   .obtain⟨y,g,B⟩:=f.hw z p;obtain⟨y2,R,P⟩:=S y g;exact⟨y2,R,P.trans B⟩
   .rcases r y g with h|rfl
    .exact f.lg y h c A
    exact f.lg w J c (jKk A)
   rcases r y g with h|rfl
   .exact q.mo y h
   exact(q.mo w J).sublist (List.take_sublist _ _)
  exact q
 exact q
end Go.S
