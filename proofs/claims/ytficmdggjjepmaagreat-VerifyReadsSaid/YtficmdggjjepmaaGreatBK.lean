import Derived.Test.YtficmdggjjepmaaGreatBJ
import Derived.Test.YtficmdggjjepmaaGreatBE
set_option linter.all false
set_option maxRecDepth 100000
set_option maxHeartbeats 1000000
namespace Go.S
open Go.Sx Go.Proofs
open Go.MapKept
variable {A:Ar}{only:Bool}{nm:ByteArray}{d:DB}{D:DB×Int}{n:Int}{G s:List Bs}{f o:List Fd}{R:List Row}{a:List gY}{i m:Nat}{r xs ys:Row}{k:Value->ab->Prop}{c:cW}{b kv:gI}
theorem qj:Tryz.prog.underlying 139=some (.map 3 104):=by kernel_rfl
theorem uC:Tryz.prog.underlying 3=some (.int .i64):=by kernel_rfl
theorem Cd(w:World):(zeroValue 104).run Tryz.prog w=.ok (.agg (List.toArray (hl zG))) w:=by rfl
def EE(gl:List (Nat->Int)):List (Value×Value):=gl.mapIdx λi g=>(.int .i64 ((i+1:Nat):Int),.agg (List.toArray (hl g)))
structure vV(h:ab)(m:Nat)(bG:List Bs):Prop where
 out:∃gl,gl.map hl=bG.map aA/\Mp h m (.int .i64) (EE gl)
theorem Pn{h:ab}(q:vV h m G)(n:Int)
 (u:(n<1\/n>(G.length:Int))->k (.tuple #[.agg (List.toArray (hl zG)),.bool false]) h)
 (t:∀(i:Nat) g b,n=((i+1:Nat):Int)->G[i]? =some b->hl g=aA b->k (.tuple #[.agg (List.toArray (hl g)),.bool true]) h):
 dF (λ_=>Tryz.prog) (λ_=>Instr.lookup 139 (.map (some m)) (.int .i64 n) true) h k:=by
 obtain⟨d,s,r⟩:=q.out;have o:d.length=G.length:=by have:=congrArg List.length s;simpa using this
 by_cases w:n<1\/n>(G.length:Int)
 .refine Mk qj uC Cd r (key:=.int .i64 n) rfl (λp c=>?_) (u w);unfold EE at c;rw[List.mem_mapIdx]at c;obtain⟨i,a,rfl⟩:=c;intro e;injection e with e1 x
  omega
 obtain⟨i,a⟩:∃i:Nat,n=((i+1:Nat):Int):=⟨(n-1).toNat,by omega⟩;obtain⟨g,j⟩:=di d i;obtain⟨b,f⟩:=di G i;have S:hl g=aA b:=by have:=congrArg (λl=>l[i]?) s;simpa[j,f]using this
 refine Pz qj uC r (key:=.int .i64 n) (v:=.agg (List.toArray (hl g))) rfl ?_ (t i g b a f S);unfold EE;rw[List.mem_mapIdx];obtain⟨I,W⟩:=dB.1 j;exact⟨i,I,by rw[W,a]⟩
theorem Kv{h:ab}(q:vV h m G)(n:Int)
 (u:(n<1\/n>(G.length:Int))->k (.agg (List.toArray (hl zG))) h)
 (t:∀(i:Nat) g b,n=((i+1:Nat):Int)->G[i]? =some b->hl g=aA b->k (.agg (List.toArray (hl g))) h):
 dF (λ_=>Tryz.prog) (λ_=>Instr.lookup 139 (.map (some m)) (.int .i64 n) false) h k:=by
 obtain⟨d,s,r⟩:=q.out;have o:d.length=G.length:=by have:=congrArg List.length s;simpa using this
 by_cases w:n<1\/n>(G.length:Int)
 .refine oa qj uC Cd r (key:=.int .i64 n) rfl (λp c=>?_) (u w);unfold EE at c;rw[List.mem_mapIdx]at c;obtain⟨i,a,rfl⟩:=c;intro e;injection e with e1 x
  omega
 obtain⟨i,a⟩:∃i:Nat,n=((i+1:Nat):Int):=⟨(n-1).toNat,by omega⟩;obtain⟨g,j⟩:=di d i;obtain⟨b,f⟩:=di G i;have S:hl g=aA b:=by have:=congrArg (λl=>l[i]?) s;simpa[j,f]using this
 refine rX qj uC r (key:=.int .i64 n) (v:=.agg (List.toArray (hl g))) rfl ?_ (t i g b a f S);unfold EE;rw[List.mem_mapIdx];obtain⟨I,W⟩:=dB.1 j;exact⟨i,I,by rw[W,a]⟩
theorem UA{h:ab}(q:vV h m G)(j:n=((G.length+1:Nat):Int)){g:Nat->Int}{b:Bs}(d:hl g=aA b)
 (f:∀h',vV h' m (G++[b])->Kp [m] h h'->(∀tys,cf tys h h')->k undef h'):
 dF (λ_=>Tryz.prog) (λ_=>do Instr.mapUpdate 139 (.map (some m)) (.int .i64 n) (.agg (List.toArray (hl g)));pure undef) h k:=by
 obtain⟨a,s,o⟩:=q.out;have l:a.length=G.length:=by have:=congrArg List.length s;simpa using this
 refine yJ qj uC o (key:=.int .i64 n) (v:=.agg (List.toArray (hl g))) rfl (λp c=>?_) ?_
 .unfold EE at c;rw[List.mem_mapIdx]at c;obtain⟨i,u,rfl⟩:=c;intro e;injection e with e1 r
  omega
 intro h' J kp t;refine f h' ⟨a++[g],by rw[hKq,hKq,s];simp[d],?_⟩ kp t;have:EE (a++[g])=EE a++[(.int .i64 n,.agg (List.toArray (hl g)))]:=by unfold EE;rw[List.mapIdx_append,j,<-l];simp
 rw[this];exact J
structure Dg where
 block:Int
 hash:Bs
def fQb(n:Int)(g:Nat->Int):List Value:=[.int .i64 n,.int .u8 (g 0),.int .u8 (g 1),.int .u8 (g 2),.int .u8 (g 3),.int .u8 (g 4),.int .u8 (g 5),.int .u8 (g 6),.int .u8 (g 7),.int .u8 (g 8),.int .u8 (g 9),.int .u8 (g 10),.int .u8 (g 11),.int .u8 (g 12),.int .u8 (g 13),.int .u8 (g 14),.int .u8 (g 15),.int .u8 (g 16),.int .u8 (g 17),.int .u8 (g 18),.int .u8 (g 19),.int .u8 (g 20),.int .u8 (g 21),.int .u8 (g 22),.int .u8 (g 23),.int .u8 (g 24),.int .u8 (g 25),.int .u8 (g 26),.int .u8 (g 27),.int .u8 (g 28),.int .u8 (g 29),.int .u8 (g 30),.int .u8 (g 31)]
def zQ:Sh Dg where
 n:=33
 R _ cs d:=∃g,cs=fQb d.block g/\hl g=aA d.hash/\d.hash.length=32
 len:=by rintro h cs d ⟨g,rfl,-⟩;rfl
 one:=by rintro h cs d ⟨g,rfl,-⟩;rfl
 tys:=[]
 mono:=by rintro h h' cs d-q;exact q
def AO(bG:List Bs)(d:Dg):Bool:=if d.block<1 then false else decide (bG[(d.block-1).toNat]? =some d.hash)
def oD(bG:List Bs):List Fd->List Dg->List Fd
 |l,[]=>l
 |l,d::r=>oD bG (bT (AO bG d) l ⟨6,d.block,0,0⟩) r
theorem OM(a b:gI):bY a b=if fY a.k b.k≠0 then fY a.k b.k else if fY a.n b.n≠0 then fY a.n b.n else if cU a.s b.s≠0 then cU a.s b.s else 0:=by unfold bY;simp only[dR,yr]
theorem OL(a b:gI):bY a b<0↔a.k<b.k\/(a.k=b.k/\(a.n<b.n\/(a.n=b.n/\cU a.s b.s<0))):=by
 have e:=rE a.k b.k;have f:=fH a.k b.k;have n1:=rE a.n b.n;have n2:=fH a.n b.n;rw[OM];split
 .rename_i h;constructor
  .intro c;exact .inl (e.1 c)
  rintro(c| ⟨c,-⟩)
  .exact e.2 c
  exact absurd (f.2 c) h
 rename_i h;have k:=f.1 (se.1 h);split
 .rename_i d;constructor
  .intro c;exact .inr ⟨k,.inl (n1.1 c)⟩
  rintro(c| ⟨-,c| ⟨c,-⟩⟩)
  .omega
  .exact n1.2 c
  exact absurd (n2.2 c) d
 rename_i d;have n:=n2.1 (se.1 d);split
 .constructor
  .intro c;exact .inr ⟨k,.inr ⟨n,c⟩⟩
  rintro(c| ⟨-,c| ⟨-,c⟩⟩)
  .omega
  .omega
  exact c
 rename_i g;constructor
 .intro c;exact absurd c (by decide)
 rintro(c| ⟨-,c| ⟨-,c⟩⟩)
 .omega
 .omega
 rw[se.1 g]at c;exact absurd c (by decide)
theorem Kk{a:gI}(h:bY a b=0):a=b:=by
 rw[OM]at h;split at h
 .rename_i c;exact absurd h c
 rename_i c;split at h
 .rename_i d;exact absurd h d
 rename_i d;split at h
 .rename_i e;exact absurd h e
 rename_i e;obtain⟨k,n,p⟩:=a;obtain⟨i,j,bs⟩:=b;have e1:=(fH _ _).1 (se.1 c);have f:=(fH _ _).1 (se.1 d);have g:=kT (se.1 e);simp only at e1 f g;rw[e1,f,g]
theorem Fy(a b:gI):bY a b=0↔a=b:=⟨Kk,λe=>by rw[e];exact xM b⟩
theorem bXy{a c:gI}(d:bY a b<0)(h:bY b c<0):bY a c<0:=by
 rw[OL]at *;rcases d with d| ⟨d,J⟩
 .rcases h with h| ⟨h,-⟩
  .exact .inl (by omega)
  exact .inl (by omega)
 rcases h with h| ⟨h,O⟩
 .exact .inl (by omega)
 refine .inr ⟨by omega,?_⟩;rcases J with J| ⟨J,K⟩
 .rcases O with O| ⟨O,-⟩
  .exact .inl (by omega)
  exact .inl (by omega)
 rcases O with O| ⟨O,e⟩
 .exact .inl (by omega)
 exact .inr ⟨by omega,Bd K e⟩
theorem aQs{a:gI}(c:¬bY a b<0)(f:bY a b≠0):bY b a<0:=by
 have m:a≠b:=λe=>f ((Fy a b).2 e);rw[OL]at *;have B:=rF a.s b.s;by_cases c1:a.k=b.k
 .by_cases c2:a.n=b.n
  .refine .inr ⟨c1.symm,.inr ⟨c2.symm,?_⟩⟩;have d:¬cU a.s b.s<0:=λh=>c (.inr ⟨c1,.inr ⟨c2,h⟩⟩);have j:cU a.s b.s≠0:=λh=>m (by
    obtain⟨k,n,p⟩:=a;obtain⟨g,i,bs⟩:=b;have:=kT h;simp only at c1 c2 this;rw[c1,c2,this])
   omega
  have d:¬a.n<b.n:=λh=>c (.inr ⟨c1,.inl h⟩);exact .inr ⟨c1.symm,.inl (by omega)⟩
 have d:¬a.k<b.k:=λh=>c (.inl h);exact .inl (by omega)
structure OB(v:gI):Prop where
 s:v.k≠3->v.s=fy
 n:v.k=3->v.n=0
 z:v.s.size<=60
theorem OB.of{v:gI}(h:dX v=0):OB v:=by
 unfold dX at h;split at h
 .cases h
 split at h
 .cases h
 rename_i f a;split at h
 .cases h
 rename_i b;simp at b;have a:gS v (ir v)=true:=by
  cases e:gS v (ir v)with
  |true=>rfl
  |false=>rw[e]at a;simp at a
 unfold gS at a;simp only[wL,yr]at a;obtain⟨-,c,d⟩:=a;refine⟨λk=>?_,λk=>?_,by omega⟩
 .rw[d];unfold ir;rw[if_neg (by simpa using k)];split
  .rfl
  split<;>rfl
 rw[c];unfold ir;rw[if_pos (by simpa using k)]
theorem Lp:∀ {l:List Int},dR l=0->∀x∈l,x=0
 | [],_,x,hx=>by cases hx
 |y::r,h,x,hx=>by
  unfold dR at h;by_cases a:y=0
  .rw[if_neg (by simp[a])]at h;rcases xu.1 hx with rfl|hx
   .exact a
   exact Lp h x hx
  rw[if_pos (by simp[a])]at h;exact absurd h a
theorem ru(h:cS a r=0):r.length=a.length/\∀v∈r,dX v=0:=by
 unfold cS at h;split at h
 .cases h
 rename_i b;have b:(r.length:Int)=a.length:=by simpa using b
 refine⟨by omega,λv f=>?_⟩;obtain⟨i,d⟩:=yl f;have j:=(dB.1 d).1;obtain⟨c,e⟩:=di a i;have:=Lp h (cT c v) (kF (i:=i) (by rw[hKF,e,d]));unfold cT at this;by_cases z:dX v=0
 .exact z
 rw[if_pos (by simp[z])]at this;exact absurd this z
theorem Ej{key:Int}(h0:0<=key)(a:key<(r.length:Int)):∃v,r[key.toNat]? =some v/\keyOf key r=v/\v∈r:=by obtain⟨v,h⟩:=di r key.toNat;refine⟨v,h,?_,kF h⟩;unfold keyOf;rw[if_neg (by simp;omega),h];rfl
structure rN(aW:List gY)(key:Int)(R:List Row):Prop where
 k0:0<=key
 k1:key<(aW.length:Int)
 fit:∀r∈R,cS aW r=0
 jd:R.Pairwise (λa b=>bY (keyOf key a) (keyOf key b)<0)
 le:R.length<=200
 cl:aW.length<=6
theorem rN.key{W:List gY}{key:Int}(q:rN W key R)(d:r∈R):∃v,r[key.toNat]? =some v/\keyOf key r=v/\dX v=0:=by obtain⟨e,h⟩:=ru (q.fit r d);obtain⟨v,a,b,c⟩:=Ej (r:=r) q.k0 (by have:=q.k1;omega);exact⟨v,a,b,h v c⟩
theorem rN.nil{key:Int}(h0:0<=key)(h:key<(a.length:Int))(b:a.length<=6):rN a key []:=⟨h0,h,λr c=>(by cases c),List.Pairwise.nil,by decide,b⟩
def bK(key:Int)(R:List Row)(kv:gI):Nat:=(R.takeWhile λr=>decide (bY (keyOf key r) kv<0)).length
def iN(key:Int)(R:List Row)(kv:gI):Bool:=match R[bK key R kv]? with
 |some r=>decide (bY (keyOf key r) kv=0)
 |none=>false
theorem uU{key:Int}:bK key R kv<=R.length/\(∀j r,j<bK key R kv->R[j]? =some r->bY (keyOf key r) kv<0)/\∀r,R[bK key R kv]? =some r->¬bY (keyOf key r) kv<0:=by
 have h:bK key R kv<=R.length:=(iQj _).length_le;have b:R.take (bK key R kv)=R.takeWhile λr=>decide (bY (keyOf key r) kv<0):=by unfold bK;exact(iQi.1 (iQh _)).symm
 refine⟨h,λj r c a=>?_,λr a=>?_⟩
 .have m:r∈R.take (bK key R kv):=kF (i:=j) (by rw[hU,if_pos c];exact a);rw[b]at m;have:=Il (p:=λr:Row=>decide (bY (keyOf key r) kv<0)) m;exact qH this
 exact ra (DJ (p:=λr:Row=>decide (bY (keyOf key r) kv<0)) a)
theorem zY{key:Int}{p:Nat}(g:p<=R.length)(e:∀j r,j<p->R[j]? =some r->bY (keyOf key r) kv<0)(f:∀r,R[p]? =some r->¬bY (keyOf key r) kv<0):p=bK key R kv:=by
 obtain⟨a,b,c⟩:=uU (key:=key) (R:=R) (kv:=kv);rcases hKK p (bK key R kv)with h|h|h
 .obtain⟨r,d⟩:=di R p;exact absurd (b p r h d) (f r d)
 .exact h
 obtain⟨r,d⟩:=di R (bK key R kv);exact absurd (e _ r h d) (c r d)
theorem rN.bs{S:rM}(q:rN S.aW S.key R)(kv:gI):dE (bX ⟨S,R⟩ kv)=bK S.key R kv/\gH (bX ⟨S,R⟩ kv)=iN S.key R kv/\∀j r,bK S.key R kv<=j->R[j]? =some r->¬bY (keyOf S.key r) kv<0:=by
 obtain⟨l,M,L⟩:=uU (key:=S.key) (R:=R) (kv:=kv);have hl:(bX ⟨S,R⟩ kv).length=R.length:=by simp[bX]
 have get:∀(j:Nat) (r:Row),R[j]? =some r->(bX ⟨S,R⟩ kv).getD j 0=bY (keyOf S.key r) kv:=λj r a=>by
  rw[xa];unfold bX;rw[qy,a];rfl
 have Z:∀j r,bK S.key R kv<=j->R[j]? =some r->¬bY (keyOf S.key r) kv<0:=λj r b a=>by
  rcases Nat.eq_or_lt_of_le b with e|I
  .subst e;exact L r a
  have O:=(dB.1 a).1;obtain⟨f,p⟩:=di R (bK S.key R kv);intro w;have:=hJA.1 q.jd _ j (dB.1 p).1 O I;rw[(dB.1 p).2,(dB.1 a).2]at this;exact L f p (bXy this w)
 have c:dE (bX ⟨S,R⟩ kv)=bK S.key R kv:=by
  unfold dE;refine sK _ _ (λj b=>?_) 0 _ (λj d g=>?_) (qT _) (by omega)
  .obtain⟨r,a⟩:=di R j;rw[get j r a];exact M j r b a
  obtain⟨r,a⟩:=di R j;rw[get j r a];exact Z j r d a
 refine⟨c,?_,Z⟩;unfold gH;rw[c];unfold iN;cases a:R[bK S.key R kv]? with
 |none=>have:R.length<=bK S.key R kv:=iQV.1 a;exact ag (λh=>by omega)
 |some r=>have I:=(dB.1 a).1;rw[get _ r a];exact decide_eq_decide.2 ⟨λh=>h.2,λh=>⟨by omega,h⟩⟩
def xL(t:bM):Prop:=rN t.S.aW t.S.key t.rows
theorem FK{t:bM}(q:xL t)(r:Row):bq t r=if cS t.S.aW r≠0 then(t,cS t.S.aW r)else if iN t.S.key t.rows (keyOf t.S.key r)=true then(t,7)else if(t.rows.length:Int)>=200 then(t,4)else(wA t (bK t.S.key t.rows (keyOf t.S.key r)) r,0):=by obtain⟨S,R⟩:=t;obtain⟨h,a,-⟩:=rN.bs (S:=S) q (keyOf S.key r);unfold bq;simp only[yr];rw[h,a]
theorem Cr{t:bM}(q:xL t)(kv:gI):aS t kv=if iN t.S.key t.rows kv=true then(zE t (bK t.S.key t.rows kv),(t.rows[bK t.S.key t.rows kv]?).getD [],0)else(t,[],2):=by obtain⟨S,R⟩:=t;obtain⟨h,a,-⟩:=rN.bs (S:=S) q kv;unfold aS;rw[h,a]
theorem Iq{t:bM}(h:(bq t r).2≠0):(bq t r).1=t:=by
 unfold bq at *;split
 .rfl
 split
 .rfl
 split
 .rfl
 rename_i a b c;rw[if_neg a,if_neg b,if_neg c]at h;exact absurd rfl h
theorem xL.put{t:bM}(q:xL t)(r:Row):xL (bq t r).1:=by
 rw[FK q];split
 .exact q
 rename_i f;have f:=se.1 f;split
 .exact q
 rename_i d;split
 .exact q
 rename_i hl;obtain⟨S,R⟩:=t;obtain⟨v,w,l⟩:=rN.bs (S:=S) q (keyOf S.key r);obtain⟨m,M,L⟩:=uU (key:=S.key) (R:=R) (kv:=keyOf S.key r);have d:¬iN S.key R (keyOf S.key r)=true:=d;have hl:¬(R.length:Int)>=200:=hl;have f:cS S.aW r=0:=f;show rN S.aW S.key (R.take (bK S.key R (keyOf S.key r))++[r]++R.drop (bK S.key R (keyOf S.key r)));have Q:=q.jd;have Q:R.Pairwise (λa b=>bY (keyOf S.key a) (keyOf S.key b)<0):=Q;have K:∀b∈R.drop (bK S.key R (keyOf S.key r)),bY (keyOf S.key r) (keyOf S.key b)<0:=λb c=>by
  obtain⟨j,h⟩:=yl c;rw[nM]at h;have c1:=l _ b (Nat.le_add_right _ _) h;refine aQs c1 (λe=>?_);by_cases A:j=0
  .subst A;refine d ?_;unfold iN;rw[show R[bK S.key R (keyOf S.key r)]? =some b from h];exact aH e
  have O:=(dB.1 h).1;obtain⟨n,p⟩:=ay (xs:=R) (i:=bK S.key R (keyOf S.key r)) (by omega);have:=hJA.1 Q _ (bK S.key R (keyOf S.key r)+j) (dB.1 p).1 O (by omega);rw[(dB.1 p).2,(dB.1 h).2]at this;rw[Kk e]at this;exact L n p this
 refine⟨q.k0,q.k1,λx hx=>?_,?_,?_,q.cl⟩
 .rcases hJJ.1 hx with hx|hx
  .rcases hJJ.1 hx with hx|hx
   .exact q.fit x (hKf hx)
   simp at hx;rw[hx];exact f
  exact q.fit x (hJC hx)
 .rw[<-hJO (bK S.key R (keyOf S.key r)) R,hKo]at Q;obtain⟨s,o,u⟩:=Q;rw[ym,hKo];refine⟨s,?_,λa k b c=>?_⟩
  .rw[hKA,iQf];exact⟨K,o⟩
  rcases xu.1 (by simpa using c:b∈r::R.drop (bK S.key R (keyOf S.key r)))with rfl|c
  .obtain⟨j,h⟩:=yl k;rw[hU]at h;split at h
   .rename_i g;exact M j a g h
   cases h
  exact u a k b c
 simp;omega
theorem xL.take{t:bM}(q:xL t)(kv:gI):xL (aS t kv).1:=by
 unfold aS;split
 .have h:(t.rows.take (dE (bX t kv))++t.rows.drop (dE (bX t kv)+1)).Sublist t.rows:=gJ _ _;exact⟨q.k0,q.k1,λr a=>q.fit r (h.subset a),q.jd.sublist h,hJX h.length_le q.le,q.cl⟩
 exact q
def gB:Row->Row->Bool
 | [],[]=>true
 |a::r,b::s=>gS a b&&gB r s
 |_,_=>false
theorem rY:∀ {a b:Row},a.length≠b.length->gB a b=false
 | [],[],h=>absurd rfl h
 |a::r,b::s,h=>by
  have:r.length≠s.length:=λe=>h (by simp[e]);unfold gB;rw[rY this,Bool.and_false]
 | [],b::s,_=>rfl
 |a::r,[],_=>rfl
theorem zV{a b:Row}{x y:gI}(hx:a[i]? =some x)(d:b[i]? =some y):gB (a.drop i) (b.drop i)=(gS x y&&gB (a.drop (i+1)) (b.drop (i+1))):=by have h:=dB.1 hx;have c:=dB.1 d;rw[qM h.1,qM c.1,h.2,c.2];rfl
set_option maxHeartbeats 8000000
theorem dKT{a:gI}(h:a.k≠b.k):bY a b=fY a.k b.k:=by rw[OM,if_pos (λe=>h ((fH _ _).1 e))]
theorem bXA{a:gI}(h:a.k=b.k)(s:a.s=b.s):bY a b=fY a.n b.n:=by
 rw[OM,if_neg (λg=>g ((fH _ _).2 h)),s,sH];by_cases c:fY a.n b.n≠0
 .rw[if_pos c]
 rw[if_neg c,if_neg (λg=>g rfl),se.1 c]
theorem bXz{a:gI}(h:a.k=b.k)(n:a.n=b.n):bY a b=cU a.s b.s:=by
 rw[OM,if_neg (λg=>g ((fH _ _).2 h)),if_neg (λg=>g ((fH _ _).2 n))];by_cases c:cU a.s b.s≠0
 .rw[if_pos c]
 rw[if_neg c,se.1 c]
theorem Hm[a:aV A]{z:Int}{x:UInt8}(h:z=(x.toNat:Int)):A .conv .i64 z=(x.toNat:Int):=by rw[a.conv,h];show IntKind.wrap .i64 _=_;rw[IntWalk.i64_in _ (by have:=x.toNat_lt;omega)]
theorem Hn{a:gI}(ha:OB a)(hb:OB b){h:ab}(P:∀z,z=bY a b->k (.int .i64 z) h):Ct 361 [.agg #[.int .i64 a.k,.int .i64 a.n,.string a.s],.agg #[.int .i64 b.k,.int .i64 b.n,.string b.s]] h k:=by
 obtain⟨A,hA⟩:=Ar.ex;have Z:=λe=>P (fY a.k b.k) (dKT (a:=a) (b:=b) e).symm;have E:=λe f=>P (fY a.n b.n) (bXA (a:=a) (b:=b) e f).symm;have v:=λe f z (g:z=cU a.s b.s)=>P z (by rw[g];exact(bXz (a:=a) (b:=b) e f).symm);clear P;obtain⟨V,eL,gz⟩:=ha;obtain⟨U,eE,T⟩:=hb;obtain⟨c,an,p⟩:=a;obtain⟨o,bn,bs⟩:=b;simp only at Z E v V eL gz U eE T;have f1:A .az .neq c o=decide (c≠o):=av A ..;have f2:A .az .neq c 3=decide (c≠3):=av A ..;refine dH XD A Tryz.func361 ?_;cbv;rw[f1];by_cases H:c≠o
 .rw[aH H];have D:=Z H;clear Z E v;cbv;refine oq c o ?_;generalize fY c o=C at *;cbv;exact D
 have H:=se.1 H;subst H;rw[ag (by simp)];cbv;rw[f2];by_cases n:c≠3
 .rw[aH n];have D:=E rfl (by rw[V n,U n]);clear Z E v;cbv;refine oq an bn ?_;generalize fY an bn=C at *;cbv;exact D
 have n:=se.1 n;replace v:=v rfl (by rw[eL n,eE n]);rw[ag (by simp[n])];clear Z E V U eL eE;have We:aM (A .iQ p) p.size:=⟨by rw[hA.iQ]⟩;have dV:aM (A .iQ bs) bs.size:=⟨by rw[hA.iQ]⟩;have aX:p.data.toList.length=p.size:=by rw[HH];rfl
 have aW:bs.data.toList.length=bs.size:=by rw[HH];rfl
 have lS:∀(s:ByteArray) (i:Nat),i<s.size->∃x:UInt8,s.data.toList[i]? =some x/\fR s i=(x.toNat:Int):=λs i hi=>by
  have xg:i<s.data.size:=hi;refine⟨s.data[i],by simp[xg],?_⟩;simp[fR,hJZ xg]
 have lT:∀s z i,aM z i->A .byte s z=fR s i:=λs z i d=>by
  rw[hA.byte];simp only[fR];rw[d.eq];rfl
 obtain⟨I,X⟩:∃I:Nat->Int->ab->Prop,∀m z h',I m z h'=∃i:Nat,aM z i/\m=p.size-i/\i<=p.size/\i<=bs.size/\h'=h/\∀j,j<i->p.data.toList[j]? =bs.data.toList[j]? :=⟨_,λ_ _ _=>rfl⟩;have J:I p.size 0 h:=by rw[X];exact⟨0,⟨rfl⟩,by omega,by omega,by omega,rfl,λj hj=>(by omega)⟩
 obtain⟨mz,au⟩:∃mz,mz=p.size:=⟨_,rfl⟩;rw[<-au]at J;cbv;refine aK.go (G:=Int) (λz=>[(5,.v (.int .i64 z))]) (λ_=>[(2,[.int .i64 c,.int .i64 an,.string p]),(3,[.int .i64 c,.int .i64 bn,.string bs])]) (λm z h'=>I m z h') mz 0 (by constructor<;>cbv) J ?_
 intro m z h' hI;rw[X]at hI;cbv;obtain⟨i,d,hm,bd,aP,aw,bg⟩:=hI;have W:=Bb (a:=p.data.toList) (b:=bs.data.toList) (i:=i) (by omega) (by omega) bg;have L:A .az .lss z (A .iQ p)=decide (i<p.size):=d.pL We;have M:A .az .lss z (A .iQ bs)=decide (i<bs.size):=d.pL dV;have Q:∀x y:List UInt8,p.data.toList.drop i=x->bs.data.toList.drop i=y->x=[]\/y=[]->fY (A .iQ p) (A .iQ bs)=cU p bs:=λx y hx F ho=>by
  unfold cU;rw[W,hx,F,We.eq,dV.eq];have R:=congrArg List.length hx;have S:=congrArg List.length F;rw[ec]at R S
  match x,y,ho with
  | [],[],_=>rw[hJE]at R S;rw[(fH _ _).2 (by omega)];rfl
  | [],y::r,_=>rw[hJE]at R;rw[hJB]at S;show(if decide ((p.size:Int)<bs.size)=true then(-1:Int)else _)=-1;rw[if_pos (aH (by omega))]
  |x::r,[],_=>rw[hJE]at S;rw[hJB]at R;show(if decide ((p.size:Int)<bs.size)=true then(-1:Int)else if decide ((p.size:Int)>bs.size)=true then 1 else 0)=1;rw[if_neg (by simp;omega),if_pos (aH (by omega))]
  |x::r,y::s,h=>exact absurd h (by simp)
 subst aw;by_cases N:i<p.size
 .rw[aH N]at L;obtain⟨x,hx,aj⟩:=lS p i N;have q:p.data.toList.drop i=x::p.data.toList.drop (i+1):=by rw[qM (by omega)];rw[(dB.1 hx).2]
  rw[L];cbv;by_cases O:i<bs.size
  .rw[aH O]at M;obtain⟨y,F,ai⟩:=lS bs i O;have MZ:bs.data.toList.drop i=y::bs.data.toList.drop (i+1):=by rw[qM (by omega)];rw[(dB.1 F).2]
   rw[q,MZ]at W;have c1:(0:Int)<=z/\z<(p.size:Int):=d.ix N;have c2:(0:Int)<=z/\z<(bs.size:Int):=d.ix O;have e1:A .byte p z=(x.toNat:Int):=by rw[lT p z i d,aj]
   have e2:A .byte bs z=(y.toNat:Int):=by rw[lT bs z i d,ai]
   have g3:A .az .neq (A .byte p z) (A .byte bs z)=decide (x≠y):=by
    rw[e1,e2,av A,decide_eq_decide];refine not_congr ?_;constructor
    .intro e;exact hJV.1 (iQv.1 e)
    rintro rfl;rfl
   have g4:=Hm (A:=A) e1;have g5:=Hm (A:=A) e2;obtain⟨wx,u⟩:∃w,A .conv .i64 (A .byte p z)=w:=⟨_,rfl⟩;obtain⟨wy,t⟩:∃w,A .conv .i64 (A .byte bs z)=w:=⟨_,rfl⟩;rw[u]at g4;rw[t]at g5;have fW:=d.succ (A:=A);obtain⟨z2,T⟩:∃z2,A .aC .add .i64 z 1=z2:=⟨_,rfl⟩;rw[T]at fW;have Y:x=y->I (p.size-(i+1)) z2 h':=λl=>by
    rw[X];refine⟨i+1,fW,rfl,by omega,by omega,rfl,λj hj=>?_⟩;rcases ss j i with h|h
    .exact bg j h
    have:j=i:=by omega
    rw[this,hx,F,l]
   have D:x≠y->k (.int .i64 (fY wx wy)) h':=λl=>by
    refine v _ ?_;unfold cU;rw[W,g4,g5];simp only[Lib.compareBytes];unfold fY;by_cases K:x<y
    .have:x.toNat<y.toNat:=hJM.1 K;rw[if_pos K,if_pos (aH (by omega))]
    have h5:¬x.toNat<y.toNat:=λe=>K (hJM.2 e);have h6:x.toNat≠y.toNat:=λe=>l (hJV.1 e);have h7:y<x:=hJM.2 (by omega);rw[if_neg K,if_pos h7,if_neg (by simp;omega),if_pos (aH (by omega))]
   have Zp:p.size-(i+1)<m:=by omega
   obtain⟨mm,MS⟩:∃mm,mm=p.size-(i+1):=⟨_,rfl⟩;rw[<-MS]at Zp Y;clear X J v Q;rw[M];cbv;refine⟨c1,?_⟩;cbv;refine⟨c2,?_⟩;cbv;rw[g3];by_cases l:x=y
   .have HY:=Y l;rw[ag (by simp[l])];clear Y D;cbv;rw[T];refine⟨mm,_,Zp,by constructor<;>cbv,HY⟩
   have B:=D l;rw[aH (by simpa using l)];clear Y D;cbv;refine⟨c1,?_⟩;cbv;refine⟨c2,?_⟩;cbv;rw[u,t];refine oq wx wy ?_;generalize fY wx wy=C at *;cbv;exact B
  rw[ag O]at M;have B:=v _ (Q _ _ q (Yd (by omega)) (.inr rfl));rw[M];clear X J v Q;cbv;refine oq (A .iQ p) (A .iQ bs) ?_;generalize fY (A .iQ p) (A .iQ bs)=C at *;cbv;exact B
 rw[ag N]at L;have B:=v _ (Q _ _ (Yd (by omega)) rfl (.inl rfl));rw[L];clear X J v Q;cbv;refine oq (A .iQ p) (A .iQ bs) ?_;generalize fY (A .iQ p) (A .iQ bs)=C at *;cbv;exact B
theorem SY[h:aV A]{va vb wa wb:Int}{vc wc:ByteArray}:A .not (A .and (A .az .eql va wa) (A .and (A .az .eql vb wb) (A .and (A .jX .eql vc wc) true)))= !(gS ⟨va,vb,vc⟩ ⟨wa,wb,wc⟩):=by rw[aq A,aq A,ek A,h.not,h.and];show(!(decide (va=wa)&&(decide (vb=wb)&&(decide (vc=wc)&&true))))=_;rw[iQx];rfl
theorem cQJ{h:ab}{b1 b2:Option Addr}{n1 c1 n2 c2:Nat}(q:Sl 87 aZ h (.slice b1 n1 c1) xs)(f:Sl 87 aZ h (.slice b2 n2 c2) ys)(b:k (.bool (gB xs ys)) h):
 Ct 90 [.slice b1 n1 c1,.slice b2 n2 c2] h k:=by
 obtain⟨A,j⟩:=Ar.ex;have P:=q.len;have n:=f.len;have x:=q.bound.1;have p:A .az .neq (A .nat n1) (A .nat n2)=decide (xs.length≠ys.length):=by rw[P,n,av A,j.nat];exact decide_eq_decide.2 (by simp only[kH];omega)
 obtain⟨D,d⟩:∃D,D=gB xs ys:=⟨_,rfl⟩;rw[<-d]at b;refine dH dZj A Tryz.func90 ?_;cbv;rw[p];by_cases c:xs.length≠ys.length
 .rw[rY c]at d;rw[d]at b;rw[aH c];cbv;exact b
 rw[ag c];have c:=se.1 c;cbv;refine aK.go (G:=Int) (λg=>[(13,.v (.int .i64 g))]) (λ_=>[]) (λm g h'=>h'=h/\∃i,aM g i/\m=n1-i/\i<=n1/\D=gB (xs.drop i) (ys.drop i)) n1 0 (by constructor<;>cbv) ⟨rfl,0,⟨rfl⟩,by omega,by omega,d⟩ ?_
 intro m g h' l;cbv;obtain⟨rfl,i,z,w,u,s⟩:=l;refine aL (λe=>?_) (λe=>?_)
 .have I:=z.lt e;clear e;obtain⟨⟨va,vb,vc⟩,hx⟩:=di xs i;obtain⟨⟨wa,wb,wc⟩,y⟩:=di ys i;rw[zV hx y]at s;have Z:b1.isSome=true/\0<=g/\g<(n1:Int):=⟨q.aR,z.ix I⟩;have o:b2.isSome=true/\0<=g/\g<(n2:Int):=⟨f.aR,z.ix (by omega)⟩;have J:=z.eq;have W:=z.succ (A:=A);have v:=SY (A:=A) (va:=va) (vb:=vb) (wa:=wa) (wb:=wb) (vc:=vc) (wc:=wc);generalize gS ⟨va,vb,vc⟩ ⟨wa,wb,wc⟩=t at *;clear d p;cbv;refine⟨Z,?_⟩;cbv;refine q.load hx J (λcs a=>?_);have a:cs=[.int .i64 va,.int .i64 vb,.string vc]:=a;subst a;cbv;refine⟨o,?_⟩;cbv;refine f.load y J (λcs a=>?_);have a:cs=[.int .i64 wa,.int .i64 wb,.string wc]:=a;subst a;cbv;rw[v];cases t with
  |true=>
   have s:D=gB (xs.drop (i+1)) (ys.drop (i+1)):=s;cbv;refine⟨n1-(i+1),_,by omega,by constructor<;>cbv,rfl,i+1,W,rfl,by omega,s⟩
  |false=>have s:D=false:=s;rw[s]at b;cbv;exact b
 have r:=z.ge e;rw[wM (by omega),wM (by omega)]at s;have s:D=true:=s;rw[s]at b;cbv;exact b
theorem Td{h:ab}{b1 b2:Option Addr}{n1 c1 n2 c2:Nat}(q:Sl 87 aZ h (.slice b1 n1 c1) xs)(c:Sl 87 aZ h (.slice b2 n2 c2) ys)(a:k (.bool (gB xs ys)) h):
 Ct 192 [.slice b1 n1 c1,.slice b2 n2 c2] h k:=by
 generalize b:gB xs ys=D at a;refine cp XM Tryz.func192 λA d=>?_;cbv;refine cQJ q c ?_;rw[b];cbv;exact a
theorem NO{h:ab}{b1 b2:Option Addr}{n1 c1 n2 c2:Nat}(q:Sl 87 aZ h (.slice b1 n1 c1) xs)(f:Sl 87 aZ h (.slice b2 n2 c2) ys)(b:k (.bool (gB xs ys)) h):
 Ct 153 [.slice b1 n1 c1,.slice b2 n2 c2] h k:=by
 obtain⟨A,j⟩:=Ar.ex;have P:=q.len;have n:=f.len;have x:=q.bound.1;have p:A .az .neq (A .nat n1) (A .nat n2)=decide (xs.length≠ys.length):=by rw[P,n,av A,j.nat];exact decide_eq_decide.2 (by simp only[kH];omega)
 obtain⟨D,d⟩:∃D,D=gB xs ys:=⟨_,rfl⟩;rw[<-d]at b;refine dH XT A Tryz.func153 ?_;cbv;rw[p];by_cases c:xs.length≠ys.length
 .rw[rY c]at d;rw[d]at b;rw[aH c];cbv;exact b
 rw[ag c];have c:=se.1 c;cbv;refine aK.go (G:=Int) (λg=>[(5,.v (.int .i64 g))]) (λ_=>[]) (λm g h'=>h'=h/\∃i,aM g i/\m=n1-i/\i<=n1/\D=gB (xs.drop i) (ys.drop i)) n1 0 (by constructor<;>cbv) ⟨rfl,0,⟨rfl⟩,by omega,by omega,d⟩ ?_
 intro m g h' l;cbv;obtain⟨rfl,i,z,w,u,s⟩:=l;refine aL (λe=>?_) (λe=>?_)
 .have I:=z.lt e;clear e;obtain⟨⟨va,vb,vc⟩,hx⟩:=di xs i;obtain⟨⟨wa,wb,wc⟩,y⟩:=di ys i;rw[zV hx y]at s;have Z:b1.isSome=true/\0<=g/\g<(n1:Int):=⟨q.aR,z.ix I⟩;have o:b2.isSome=true/\0<=g/\g<(n2:Int):=⟨f.aR,z.ix (by omega)⟩;have J:=z.eq;have W:=z.succ (A:=A);have v:=SY (A:=A) (va:=va) (vb:=vb) (wa:=wa) (wb:=wb) (vc:=vc) (wc:=wc);generalize gS ⟨va,vb,vc⟩ ⟨wa,wb,wc⟩=t at *;clear d p;cbv;refine⟨Z,?_⟩;cbv;refine q.load hx J (λcs a=>?_);have a:cs=[.int .i64 va,.int .i64 vb,.string vc]:=a;subst a;cbv;refine⟨o,?_⟩;cbv;refine f.load y J (λcs a=>?_);have a:cs=[.int .i64 wa,.int .i64 wb,.string wc]:=a;subst a;cbv;rw[v];cases t with
  |true=>
   have s:D=gB (xs.drop (i+1)) (ys.drop (i+1)):=s;cbv;refine⟨n1-(i+1),_,by omega,by constructor<;>cbv,rfl,i+1,W,rfl,by omega,s⟩
  |false=>have s:D=false:=s;rw[s]at b;cbv;exact b
 have r:=z.ge e;rw[wM (by omega),wM (by omega)]at s;have s:D=true:=s;rw[s]at b;cbv;exact b
theorem Nm{y:gY}{x:gI}(hx:r[i]? =some x)(h:a[i]? =some y):dR ((List.zipWith cT a r).drop i)=if cT y x≠0 then cT y x else dR ((List.zipWith cT a r).drop (i+1)):=by
 have V:(List.zipWith cT a r)[i]? =some (cT y x):=by rw[hKF,hx,h]
 have hl:=dB.1 V;rw[qM hl.1,hl.2];show(if decide (cT y x≠0)=true then _ else _)=_;simp only[yr]
theorem aKH{W:List gY}{key:Int}{h:ab}{H b:Option Addr}{v O n c:Nat}(E:Sl 58 bt h (.slice H v O) W)(q:Sl 87 aZ h (.slice b n c) r)(j:k (.int .i64 (cS W r)) h):
 Ct 338 [.agg #[.string nm,.slice H v O,.int .i64 key,.bool only],.slice b n c] h k:=by
 obtain⟨A,Q⟩:=Ar.ex;have kP:=q.len;have jt:=E.len;have iD:=q.bound.1;have V:A .az .neq (A .nat n) (A .nat v)=decide ((r.length:Int)≠(W.length:Int)):=by rw[kP,jt,av A,Q.nat];rfl
 obtain⟨D,L⟩:∃D,D=cS W r:=⟨_,rfl⟩;rw[<-L]at j;have f:D=if decide ((r.length:Int)≠(W.length:Int))=true then 1 else dR ((List.zipWith cT W r).drop 0):=L
 clear L;refine dH NJ A Tryz.func338 ?_;cbv;rw[V];by_cases B:(r.length:Int)≠(W.length:Int)
 .rw[aH B]at f |-;have f:D=1:=f;rw[f]at j;cbv;exact j
 rw[ag B]at f |-;have B:r.length=W.length:=by have:=se.1 B;omega
 have f:D=dR ((List.zipWith cT W r).drop 0):=f;obtain⟨J,X⟩:∃J:Nat->Int->ab->Prop,∀m g h',J m g h'=(h'=h/\∃i,aM g i/\m=n-i/\i<=n/\D=dR ((List.zipWith cT W r).drop i)):=⟨_,λ_ _ _=>rfl⟩;have T:J n 0 h:=by rw[X];exact⟨rfl,0,⟨rfl⟩,by omega,by omega,f⟩
 clear V;cbv;refine aK.go (G:=Int) (λg=>[(5,.v (.int .i64 g))]) (λ_=>[(2,[.string nm,.slice H v O,.int .i64 key,.bool only])]) (λm g h'=>J m g h') n 0 (by constructor<;>cbv) T ?_
 intro m g h' S;rw[X]at S;cbv;obtain⟨rfl,i,u,hm,hi,s⟩:=S;have P:A .az .lss g (A .nat n)=decide (i<n):=u.pL (aM.nat n);rw[P];by_cases I:i<n
 .rw[aH I];obtain⟨⟨va,vb,vc⟩,hx⟩:=di r i;obtain⟨⟨w,y,l⟩,M⟩:=di W i;rw[Nm hx M]at s;have F:cT ⟨w,y,l⟩ ⟨va,vb,vc⟩=0->J (n-(i+1)) (A .aC .add .i64 g 1) h':=λe=>by
   rw[X];rw[if_neg (by simp[e])]at s;exact⟨rfl,i+1,u.succ (A:=A),rfl,I,s⟩
  have d:∀z,cT ⟨w,y,l⟩ ⟨va,vb,vc⟩=z->z≠0->k (.int .i64 z) h':=λz e Y=>by
   rw[e,if_pos Y]at s;rw[<-s];exact j
  have K:n-(i+1)<m:=by omega
  obtain⟨C,MS⟩:∃C,C=n-(i+1):=⟨_,rfl⟩;rw[<-MS]at F K;have N:b.isSome=true/\0<=g/\g<(n:Int):=⟨q.aR,u.ix I⟩;have U:H.isSome=true/\0<=g/\g<(v:Int):=⟨E.aR,u.ix (by omega)⟩;have t:=u.eq;clear X T s f P j;cbv;refine⟨N,?_⟩;cbv;refine q.load hx t (λcs a=>?_);have a:cs=[.int .i64 va,.int .i64 vb,.string vc]:=a;subst a;cbv;refine LK (λe p=>?_);have R:cT ⟨w,y,l⟩ ⟨va,vb,vc⟩=if decide (e≠0)=true then e else if(decide (va=0)&& !l)=true then 13 else if(decide (va≠0)&&decide (va≠y))=true then 3 else 0:=by rw[p];rfl
  rw[R]at F d;clear R p;have f1:A .az .neq e 0=decide (e≠0):=av A ..;have f2:A .az .eql va 0=decide (va=0):=aq A ..;have f3:A .az .neq va y=decide (va≠y):=av A ..;cbv;rw[f1];by_cases p:e≠0
  .rw[aH p]at F d |-;have:=d e rfl p;clear d F;cbv;exact this
  rw[ag p]at F d |-;cbv;refine⟨N,?_⟩;cbv;refine q.ep hx t (o:=0) (m:=1) (by decide) (λcs a=>?_);have a:cs=[.int .i64 va,.int .i64 vb,.string vc]:=a;subst a;cbv;rw[f2];by_cases x:va=0
  .rw[aH x]at F d |-;rw[ag (show ¬va≠0 from λh=>h x)]at F d;cbv;refine⟨U,?_⟩;cbv;refine E.ep M t (o:=2) (m:=1) (by decide) (λcs a=>?_);have a:cs=[.string w,.int .i64 y,.bool l]:=a;subst a;cbv;rw[Q.not];cases l with
   |true=>
    have F:=F rfl;clear d;cbv;refine⟨C,_,K,by constructor<;>cbv,F⟩
   |false=>have:=d 13 rfl (by decide);clear d F;cbv;exact this
  rw[ag x]at F d |-;rw[aH (show va≠0 from x)]at F d;cbv;refine⟨?_,?_⟩
  .exact N
  cbv;refine q.ep hx t (o:=0) (m:=1) (by decide) (λcs a=>?_);have a:cs=[.int .i64 va,.int .i64 vb,.string vc]:=a;subst a;cbv;refine⟨U,?_⟩;cbv;refine E.ep M t (o:=1) (m:=1) (by decide) (λcs a=>?_);have a:cs=[.string w,.int .i64 y,.bool l]:=a;subst a;cbv;rw[f3];by_cases Z:va≠y
  .rw[aH Z]at d F |-;have:=d 3 rfl (by decide);clear d F;cbv;exact this
  rw[ag Z]at d F |-;have F:=F rfl;clear d;cbv;refine⟨C,_,K,by constructor<;>cbv,F⟩
 rw[ag I];rw[wM (by rw[List.length_zipWith];omega)]at s;have s:D=0:=s;rw[s]at j;cbv;exact j
def sY(T:List bM)(nm:ByteArray):Nat:=(T.takeWhile λx=> !decide (x.S.name=nm)).length
def BC(t:bM)(c:cW):bM×Bool:=
 if c.op=1 then((bq t c.row).1,decide ((bq t c.row).2=0))
 else if t.S.only=true then(t,false)
 else if t.S.key>=(c.row.length:Int)then(t,false)
 else if(aS t (keyOf t.S.key c.row)).2.2=0/\gB (aS t (keyOf t.S.key c.row)).2.1 c.row=true then((aS t (keyOf t.S.key c.row)).1,true)else(t,false)
def jz(T:List bM)(c:cW):List bM×Bool:=match T[sY T c.table]? with
 |none=>(T,false)
 |some t=>(T.set (sY T c.table) (BC t c).1,(BC t c).2)
theorem Pj{T:List bM}{t:bM}(h:T[i]? =some t)(n:t.S.name=nm)(b:∀j,j<i->∀y,T[j]? =some y->decide (y.S.name=nm)=false):sY T nm=i:=by unfold sY;refine zB (λj a y c=>by rw[b j a y c];rfl) (by have:=(dB.1 h).1;omega) (λ_=>⟨t,h,by rw[aH n];rfl⟩)
theorem Iu{T:List bM}(b:∀t∈T,decide (t.S.name=nm)=false):T[sY T nm]? =none:=by
 have:sY T nm=T.length:=by unfold sY;refine zB (λj c y a=>by rw[b y (kF a)];rfl) (mr _) (λh=>by omega)
 rw[this];exact qk (mr _)
theorem Dr{T:List bM}(h:∀t∈T,decide (t.S.name=c.table)=false):jz T c=(T,false):=by unfold jz;rw[Iu h]
theorem Dq{T:List bM}{t:bM}(h:T[i]? =some t)(n:t.S.name=c.table)(b:∀j,j<i->∀y,T[j]? =some y->decide (y.S.name=c.table)=false):jz T c=(T.set i (BC t c).1,(BC t c).2):=by have:=Pj h n b;unfold jz;rw[this,h]
theorem cQR(t:bM)(c:cW):(BC t c).1.S=t.S:=by
 unfold BC;split
 .exact mM _ _
 split
 .rfl
 split
 .rfl
 split
 .exact mu _ _
 rfl
theorem aKa{t:bM}(q:xL t)(c:cW):xL (BC t c).1:=by
 unfold BC;split
 .exact q.put _
 split
 .exact q
 split
 .exact q
 split
 .exact q.take _
 exact q
theorem Lw{t:bM}(h:c.op=1):BC t c=((bq t c.row).1,decide ((bq t c.row).2=0)):=by unfold BC;rw[if_pos h]
theorem Hh{t:bM}(h:c.op≠1)(a:t.S.only=true):BC t c=(t,false):=by unfold BC;rw[if_neg h,if_pos a]
theorem Xf{t:bM}(h:c.op≠1)(a:t.S.only=false)(b:t.S.key>=(c.row.length:Int)):BC t c=(t,false):=by unfold BC;rw[if_neg h,if_neg (by rw[a];decide),if_pos b]
theorem Hg{t:bM}(h:c.op≠1)(a:t.S.only=false)(b:¬t.S.key>=(c.row.length:Int)){D:bM×Row×Int}(d:aS t (keyOf t.S.key c.row)=D):BC t c=if D.2.2=0/\gB D.2.1 c.row=true then(D.1,true)else(t,false):=by unfold BC;rw[if_neg h,if_neg (by rw[a];decide),if_neg b,d]
theorem Xe{t:bM}(q:xL t)(h:c.op≠1)(f:c.row.length≠t.S.aW.length):BC t c=(t,false):=by
 unfold BC;rw[if_neg h];split
 .rfl
 split
 .rfl
 rw[if_neg];rintro⟨d,a⟩;rw[Cr q]at d a;split at d
 .rename_i b;rw[if_pos b]at a;have a:gB ((t.rows[bK t.S.key t.rows (keyOf t.S.key c.row)]?).getD []) c.row=true:=a;unfold iN at b;cases e:t.rows[bK t.S.key t.rows (keyOf t.S.key c.row)]? with
  |none=>rw[e]at b;cases b
  |some r=>rw[e]at a;have hl:=(ru (q.fit r (kF e))).1;rw[show(some r).getD []=r from rfl,rY (by omega)]at a;cases a
 exact absurd d (by show ¬(2:Int)=0;decide)
structure VS where
 d:DB
 next:Int
 open_:List Bs
 bG:List Bs
 found:List Fd
def lW(n id:Int)(rows:List Bs):Nat->List bM×List Fd->List cW->List bM×List Fd
 |_,s,[]=>s
 |i,s,c::r=>lW n id rows (i+1) ((jz s.1 c).1,bT (jz s.1 c).2 (bT (decide (dy id i c=(rows[i]?).getD [])) s.2 ⟨3,n,id,(i:Int)⟩) ⟨7,n,id,(i:Int)⟩) r
def lh(v:VS)(said:Bs):VS:=⟨v.d,v.next,[],v.bG++[eK (nZ v.open_ v.bG)],xP v.found v.open_ v.bG said⟩
def dKX(v:VS)(t:aQd)(n:Int)(s:List bM×List Fd):VS:=
 ⟨ba v.d s.1,IntKind.i64.wrap (t.id+1),v.open_++[eF t.id t.xI],v.bG,
  bT (decide (t.pf=decide ((v.open_++[eF t.id t.xI]).length=4))) (bT (decide (fN t.id t.xI=t.root)) s.2 ⟨4,n,t.id,0⟩) ⟨2,n,0,0⟩⟩
def aQA(v:VS)(t:aQd):VS:=
 dKX v t ((v.bG.length+1:Nat):Int) (lW ((v.bG.length+1:Nat):Int) t.id t.rows 0 (v.d.al,bT (decide (t.id=v.next)) v.found ⟨2,((v.bG.length+1:Nat):Int),t.id,0⟩) t.xI)
def Yt(v:VS)(t:aQd):VS:=if t.pf=true then lh (aQA v t) t.block else aQA v t
def IG(v:VS)(k:Nat):HI->VS
 | .made s=>⟨(cm v.d s).1,v.next,v.open_,v.bG,bT (decide ((cm v.d s).2=0)) v.found ⟨7,0,0,(k:Int)⟩⟩
 | .gone nm=>⟨(dD v.d nm).1,v.next,v.open_,v.bG,bT (decide ((dD v.d nm).2=0)) v.found ⟨7,0,0,(k:Int)⟩⟩
 | .tx t=>Yt v t
 | .dM n sum=>if n≠((v.bG.length+1:Nat):Int)\/v.open_=[]then⟨v.d,v.next,v.open_,v.bG,iS v.found ⟨2,n,0,0⟩⟩else lh v sum
def qO:Nat->VS->List Bs->VS
 |_,v,[]=>v
 |k,v,b::r=>match cF b with
  |none=>⟨v.d,v.next,v.open_,v.bG,iS v.found ⟨1,0,0,(k:Int)⟩⟩
  |some x=>qO (k+1) (IG v k x) r
def Uu(l:List Bs)(whole:Bool):VS:=qO 0 ⟨dz,0,[],[],bT whole [] ⟨1,0,0,(l.length:Int)⟩⟩ l
def Ii(l:List Bs)(whole:Bool)(ds:List Dg):List Fd:=oD (Uu l whole).bG (Uu l whole).found ds
structure VI(d:DB):Prop where
 jd:d.al.Pairwise (λa b=>cU a.S.name b.S.name<0)
 le:d.al.length<=8
 al:∀t∈d.al,xL t/\t.S.name.size<=12
 aj:d.aj=[]
 holds:d.holds=[]
 waits:d.waits=[]
theorem VI.small(q:VI d):Small d where
 al:=by have:=q.le;omega
 aj:=by rw[q.aj];exact qT _
 rows:=λt ht=>by have:=(q.al t ht).1.le;omega
 holds:=by rw[q.holds];exact Nat.two_pow_pos _
 waits:=by rw[q.waits];exact Nat.two_pow_pos _
theorem gXq:VI dz:=⟨List.Pairwise.nil,by decide,λt h=>(by cases h),rfl,rfl,rfl⟩
theorem UO{s:rM}(h:dA s=0):0<=s.key/\s.key<(s.aW.length:Int)/\s.name.size<=12/\s.aW.length<=6:=by
 unfold dA at h;split at h
 .cases h
 rename_i n;have n:fD s.name=true:=by
  cases d:fD s.name with
  |true=>rfl
  |false=>rw[d]at n;simp at n
 split at h
 .cases h
 rename_i c;simp at c;split at h
 .rename_i a;exact absurd h a
 split at h
 .cases h
 rename_i b;simp at b;refine⟨by omega,by omega,?_,by omega⟩;unfold fD xT at n;simp at n;omega
theorem LS(q:VI d)(s:rM):VI (cm d s).1:=by
 rw[rD q.jd];unfold dY;split
 .exact q
 rename_i g;have g:dA s=0:=by simpa using g
 obtain⟨k,l,i,m⟩:=UO g;split
 .exact q
 rename_i f;split
 .exact q
 rename_i c;split
 .exact q
 have c:d.al.length<8:=by simp at c;omega
 obtain⟨-,x,p,n⟩:=uH q.jd s.name;refine⟨?_,?_,λt h=>?_,q.aj,q.holds,q.waits⟩
 .show(d.al.take (cD d.al s.name)++[(⟨s,[]⟩:bM)]++d.al.drop (cD d.al s.name)).Pairwise _;have j:=q.jd;rw[<-hJO (cD d.al s.name) d.al,hKo]at j;obtain⟨o,r,u⟩:=j;rw[ym,hKo];refine⟨o,?_,λa f b c=>?_⟩
  .rw[hKA,iQf];refine⟨λb c=>?_,r⟩;have w:=n b c;rw[rF];have v:cU b.S.name s.name≠0:=λe=>by
    have:=kT e;exact f (hKh.2 ⟨b,hJC c,aH this⟩)
   show - cU b.S.name s.name<0;omega
  rcases xu.1 (by simpa using c:b∈(⟨s,[]⟩:bM)::d.al.drop (cD d.al s.name))with rfl|c
  .exact p a f
  exact u a f b c
 .show(d.al.take (cD d.al s.name)++[(⟨s,[]⟩:bM)]++d.al.drop (cD d.al s.name)).length<=8;simp;omega
 have h:t∈d.al.take (cD d.al s.name)++[(⟨s,[]⟩:bM)]++d.al.drop (cD d.al s.name):=h;rcases hJJ.1 h with h|h
 .rcases hJJ.1 h with h|h
  .exact q.al t (hKf h)
  simp at h;subst h;exact⟨rN.nil k l m,i⟩
 exact q.al t (hJC h)
theorem Ut(q:VI d)(nm:ByteArray):VI (dD d nm).1:=by
 unfold dD;split
 .split
  .exact q
  refine⟨q.jd.sublist (hKB ..),?_,λt h=>q.al t (List.mem_of_mem_eraseIdx h),q.aj,q.holds,q.waits⟩;show(d.al.eraseIdx _).length<=8;have:=(hKB d.al (dE (aF d.al nm))).length_le;have:=q.le;omega
 exact q
theorem aQq(q:VI d){t c:bM}(e:d.al[i]? =some t)(S:c.S=t.S)(m:xL c):VI (ba d (d.al.set i c)):=by
 have Z:=(dB.1 e).1;have z:=(dB.1 e).2;refine⟨?_,?_,λx hx=>?_,q.aj,q.holds,q.waits⟩
 .show(d.al.set i c).Pairwise _;have h:=q.jd;rw[hJA]at h |-;intro a b f g W;simp only[ml]at f g;have:=h a b f g W;simp only[iQU];split
  .rename_i e1;subst e1;rw[if_neg (by omega),S,<-z];exact this
  split
  .rename_i e1 j;subst j;rw[S,<-z];exact this
  exact this
 .show(d.al.set i c).length<=8;rw[ml];exact q.le
 have hx:x∈d.al.set i c:=hx;rcases iQg hx with hx|rfl
 .exact q.al x hx
 exact⟨m,by rw[S];exact(q.al t (kF e)).2⟩
theorem Ih(q:VI d)(c:cW):VI (ba d (jz d.al c).1):=by
 unfold jz;cases h:d.al[sY d.al c.table]? with
 |none=>exact q
 |some t=>exact aQq q h (cQR t c) (aKa (q.al t (kF h)).1 c)
theorem Kj{n id:Int}{rows:List Bs}:∀ {l:List cW} {i:Nat} {d:DB} {f:List Fd},VI d->VI (ba d (lW n id rows i (d.al,f) l).1)
 | [],i,d,f,q=>q
 |c::r,i,d,f,q=>by
  have:=Kj (n:=n) (id:=id) (rows:=rows) (l:=r) (i:=i+1) (f:=bT (jz d.al c).2 (bT (decide (dy id i c=(rows[i]?).getD [])) f ⟨3,n,id,(i:Int)⟩) ⟨7,n,id,(i:Int)⟩) (Ih q c);exact this
structure Ox(v:VS)(k:Nat):Prop where
 vi:VI v.d
 YB:∀x∈v.bG,x.length=32
 o:v.open_.length<=k
 s:v.bG.length<=k
theorem FT{v:VS}{k:Nat}(q:VI v.d)(h:∀x∈v.bG,x.length=32)(a:v.bG.length<=k)(s:Bs):Ox (lh v s) (k+1):=
 ⟨q,λx hx=>by
  have hx:x∈v.bG++[eK (nZ v.open_ v.bG)]:=hx;rcases hJJ.1 hx with hx|hx
  .exact h x hx
  .simp at hx;rw[hx];exact rI _,qT _,by
  show(v.bG++[_]).length<=_;simp;omega⟩
theorem nt{v:VS}{k:Nat}(q:Ox v k)(x:HI):Ox (IG v k x) (k+1):=by
 have o:=q.o;have a:=q.s;cases x with
 |made s=>exact⟨LS q.vi s,q.YB,by show v.open_.length<=_;omega,by show v.bG.length<=_;omega⟩
 |gone nm=>exact⟨Ut q.vi nm,q.YB,by show v.open_.length<=_;omega,by show v.bG.length<=_;omega⟩
 |tx t=>
  have h:VI (aQA v t).d:=Kj q.vi;show Ox (Yt v t) (k+1);unfold Yt;split
  .exact FT h q.YB a _
  exact⟨h,q.YB,by show(v.open_++[_]).length<=_;simp;omega,by show v.bG.length<=_;omega⟩
 |dM n u=>
  show Ox (if n≠((v.bG.length+1:Nat):Int)\/v.open_=[]then _ else lh v u) (k+1);split
  .exact⟨q.vi,q.YB,by show v.open_.length<=_;omega,by show v.bG.length<=_;omega⟩
  exact FT q.vi q.YB a _
theorem bXw:Ox ⟨dz,0,[],[],f⟩ 0:=⟨gXq,λx hx=>(by cases hx),mr _,mr _⟩
structure NV(c:cW):Prop where
 b:TO c
 v:∀x∈c.row,dX x=0
structure um(h0 h:ab)(v:Value)(d:DB):Prop where
 out:∃b1 n1 c1 b2 n2 c2 b3 n3 c3 b4 n4 c4,v=.agg #[.slice b1 n1 c1,.slice b2 n2 c2,.slice b3 n3 c3,.slice b4 n4 c4]/\aT 100 bu h0 h (.slice b1 n1 c1) d.al/\gv h v d
theorem um.form{h0 h:ab}{v:Value}(q:um h0 h v d):∃b1 n1 c1 b2 n2 c2 b3 n3 c3 b4 n4 c4,v=.agg #[.slice b1 n1 c1,.slice b2 n2 c2,.slice b3 n3 c3,.slice b4 n4 c4]:=by obtain⟨b1,n1,c1,b2,n2,c2,b3,n3,c3,b4,n4,c4,rfl,-⟩:=q.out;exact⟨_,_,_,_,_,_,_,_,_,_,_,_,rfl⟩
theorem um.base{h0 a h:ab}{v:Value}(q:um a h v d)(l:Le h0 a):um h0 h v d:=by obtain⟨b1,n1,c1,b2,n2,c2,b3,n3,c3,b4,n4,c4,e,b,c⟩:=q.out;exact⟨b1,n1,c1,b2,n2,c2,b3,n3,c3,b4,n4,c4,e,b.base l,c⟩
theorem um.buf{h0 h:ab}{b1 b2 b3 b4:Option Addr}{n1 c1 n2 c2 n3 c3 n4 c4:Nat}(q:um h0 h (.agg #[.slice b1 n1 c1,.slice b2 n2 c2,.slice b3 n3 c3,.slice b4 n4 c4]) d):aT 100 bu h0 h (.slice b1 n1 c1) d.al:=by obtain⟨_,_,_,_,_,_,_,_,_,_,_,_,e,a,-⟩:=q.out;cases e;exact a
theorem um.db{h0 h:ab}{v:Value}(q:um h0 h v d):gv h v d:=by obtain⟨_,_,_,_,_,_,_,_,_,_,_,_,e,-,a⟩:=q.out;exact a
theorem wP{h:ab}{v:Value}(q:gv h v d):Ct 78 [v] h (λj h'=>Le h h'/\um h h' j d):=by refine(PW q).mono (λv k hR=>?_);obtain⟨l,t,wb,n1,n2,b3,n3,c3,b4,n4,c4,W,n,y,rfl,g,a,b,c,e,f,i⟩:=hR;exact⟨l,⟨_,_,_,_,_,_,_,_,_,_,_,_,rfl,a.buf n g,⟨_,_,_,_,_,_,_,_,_,_,_,_,W,rfl,a.sl g,c.sl b,e,f,by rw[i,hKH];simp[Function.comp_def]⟩⟩⟩
theorem Eb{h:ab}{v:Value}(q:gv h v d)
 (b:∀h' b1 n1 c1 b2 n2 c2 b3 n3 c3 b4 n4 c4,Le h h'->um h h' (.agg #[.slice b1 n1 c1,.slice b2 n2 c2,.slice b3 n3 c3,.slice b4 n4 c4]) d->k (.agg #[.slice b1 n1 c1,.slice b2 n2 c2,.slice b3 n3 c3,.slice b4 n4 c4]) h'):Ct 78 [v] h k:=
 (wP q).mono (λv h' hR=>by
  obtain⟨l,a⟩:=hR;obtain⟨b1,n1,c1,b2,n2,c2,b3,n3,c3,b4,n4,c4,c⟩:=a.form;rw[c]at a |-;exact b h' _ _ _ _ _ _ _ _ _ _ _ _ l a)
abbrev dQk(h:ab)(d':DB)(e:Int)(k:Value->ab->Prop):Prop:=
 ∀h' b1 n1 c1 b2 n2 c2 b3 n3 c3 b4 n4 c4,Le h h'->um h h' (.agg #[.slice b1 n1 c1,.slice b2 n2 c2,.slice b3 n3 c3,.slice b4 n4 c4]) d'->k (.tuple #[.agg #[.slice b1 n1 c1,.slice b2 n2 c2,.slice b3 n3 c3,.slice b4 n4 c4],.int .i64 e]) h'
theorem Nt{h:ab}{v:Value}(q:gv h v d){k:List gY}{key:Int}{sb:Option Addr}{sn sc:Nat}(qs:Sl 58 bt h (.slice sb sn sc) k)(aD:d.al.length<=2^37)(aI:d.aj.length<=2^37):
 Ct 59 [v,.agg #[.string nm,.slice sb sn sc,.int .i64 key,.bool only]] h (λv' h'=>∃R e z i is,v'=.tuple #[R,.int .i64 e]/\Le h h'/\um h h' R (eC d ⟨nm,k,key,only⟩ i is).1/\e=(eC d ⟨nm,k,key,only⟩ i is).2/\aM z i/\Kc (d.al.map λx=>cU x.S.name nm) z is):=by
 have q0:=q;obtain⟨b1,n1,c1,b2,n2,c2,b3,n3,c3,b4,n4,c4,ws,rfl,q1,q2,-,-,qw⟩:=q0.out;refine cp dZo Tryz.func59 λA hA=>?_;cbv;refine(zb q).mono (λv h1 hR=>?_);obtain⟨l1,c,tb,wb,ct,cw,W,rfl,D,nS,yy,pX,oZ,hW,Ov,Ou,cs⟩:=hR;cbv;refine(EN (key:=key) (only:=only) (nm:=nm) (qs.mono (l1.t _))).mono (λv h2 hR=>?_);obtain⟨l2,p,rfl,xj⟩:=hR;cbv;refine(ry (cs.mono l2) pX oZ).mono (λv h3 hR=>?_);obtain⟨rfl,H,F⟩:=hR;have S:Le h h3:=(l1.trans l2).aE (by simpa using D) H;cbv;refine(rS F nm).mono (λv h4 hR=>?_);obtain⟨B,z,t,rfl,hb⟩:=hR;rw[if_pos rfl]at F;obtain⟨i,hz,hi,ht⟩:=hb.out;have s:∀(E:Int) (v:Value) {N:ab},Le h N->E≠0->eo d ⟨nm,k,key,only⟩ t=E->um h N v d->∃R e1 z i is,Value.tuple #[v,.int .i64 E]=.tuple #[R,.int .i64 e1]/\Le h N/\um h N R (eC d ⟨nm,k,key,only⟩ i is).1/\e1=(eC d ⟨nm,k,key,only⟩ i is).2/\aM z i/\Kc (d.al.map λx=>cU x.S.name nm) z is:=λE v N l m D a=>by
  have:eC d ⟨nm,k,key,only⟩ i t=(d,E):=by unfold eC;rw[D,if_neg m]
  exact⟨v,E,z,i,t,rfl,l,by rw[this];exact a,by rw[this],hz,hb⟩
 cases t with
 |true=>
  cbv;refine(ry (F.mono B) pX oZ).mono (λv L hR=>?_);obtain⟨rfl,O,r⟩:=hR;have n:Le h L:=(S.trans B).aE (by simpa using D) O;obtain⟨E,m⟩:∃E,E=(if p=0 then 7 else p):=⟨_,rfl⟩;rw[<-m]at r;have C:eo d ⟨nm,k,key,only⟩ true=E:=by unfold eo;rw[m,<-xj];by_cases h0:p=0<;>simp[h0]
  cbv;obtain⟨P,m2,x3,m3,H,x4,m4,k4,o,g,go,G,T,U,V,Y,Z⟩:=r.out;generalize f:A .az .neq E 0=u;rw[av A]at f;rw[ao A];refine bc g ?_;cbv;rw[av A,f];cases u with
  |true=>cbv;rw[ao A];refine bc g ?_;cbv;refine(wP (q.mono n)).mono (λv M hR=>?_);obtain⟨b,a⟩:=hR;have a:=a.base n;have w:=a;obtain⟨b1,n1,c1,b2,n2,c2,b3,n3,c3,b4,n4,c4,rfl⟩:=a.form;cbv;refine bc (b _ _ g) ?_;cbv;refine⟨⟨_,rfl,rfl⟩,?_⟩;cbv;refine bc (b _ _ g) ?_;cbv;refine⟨⟨_,rfl,rfl⟩,?_⟩;cbv;exact s _ _ (n.trans b) (qH f) C w
  |false=>exact absurd (ra f) (by rw[m];by_cases h0:p=0<;>simp[h0])
 |false=>
  generalize eg:A .az .geq (A .nat n1) 8=ug;generalize ew:A .az .gtr (A .nat n2) 0=uw;have hg:ug=decide (d.al.length>=8):=by rw[<-eg,cZ A,hA.nat,q1.len,decide_eq_decide];simp only[kH];omega
  have hw:uw=decide (d.aj.length>0):=by
   rw[<-ew,aO A,hA.nat,q2.len,decide_eq_decide];simp only[kH];have:ws.length=d.aj.length:=by rw[<-qw,hJT]
   omega
  cbv;rw[eg];cases ug with
  |true=>
   cbv;refine(ry (F.mono B) pX oZ).mono (λv L hR=>?_);obtain⟨rfl,O,r⟩:=hR;have n:Le h L:=(S.trans B).aE (by simpa using D) O;obtain⟨E,m⟩:∃E,E=(if p=0 then 4 else p):=⟨_,rfl⟩;rw[<-m]at r;have C:eo d ⟨nm,k,key,only⟩ false=E:=by unfold eo;rw[m,<-xj,<-hg];by_cases h0:p=0<;>simp[h0]
   cbv;obtain⟨P,m2,x3,m3,H,x4,m4,k4,o,g,go,G,T,U,V,Y,Z⟩:=r.out;generalize f:A .az .neq E 0=u;rw[av A]at f;rw[ao A];refine bc g ?_;cbv;rw[av A,f];cases u with
   |true=>cbv;rw[ao A];refine bc g ?_;cbv;refine(wP (q.mono n)).mono (λv M hR=>?_);obtain⟨b,a⟩:=hR;have a:=a.base n;have w:=a;obtain⟨b1,n1,c1,b2,n2,c2,b3,n3,c3,b4,n4,c4,rfl⟩:=a.form;cbv;refine bc (b _ _ g) ?_;cbv;refine⟨⟨_,rfl,rfl⟩,?_⟩;cbv;refine bc (b _ _ g) ?_;cbv;refine⟨⟨_,rfl,rfl⟩,?_⟩;cbv;exact s _ _ (n.trans b) (qH f) C w
   |false=>exact absurd (ra f) (by rw[m];by_cases h0:p=0<;>simp[h0])
  |false=>
   cbv;rw[ew];cases uw with
   |true=>
    cbv;refine(ry (F.mono B) pX oZ).mono (λv L hR=>?_);obtain⟨rfl,O,r⟩:=hR;have n:Le h L:=(S.trans B).aE (by simpa using D) O;obtain⟨E,m⟩:∃E,E=(if p=0 then 18 else p):=⟨_,rfl⟩;rw[<-m]at r;have C:eo d ⟨nm,k,key,only⟩ false=E:=by unfold eo;rw[m,<-xj,<-hg,<-hw];by_cases h0:p=0<;>simp[h0]
    cbv;obtain⟨P,m2,x3,m3,H,x4,m4,k4,o,g,go,G,T,U,V,Y,Z⟩:=r.out;generalize f:A .az .neq E 0=u;rw[av A]at f;rw[ao A];refine bc g ?_;cbv;rw[av A,f];cases u with
    |true=>cbv;rw[ao A];refine bc g ?_;cbv;refine(wP (q.mono n)).mono (λv M hR=>?_);obtain⟨b,a⟩:=hR;have a:=a.base n;have w:=a;obtain⟨b1,n1,c1,b2,n2,c2,b3,n3,c3,b4,n4,c4,rfl⟩:=a.form;cbv;refine bc (b _ _ g) ?_;cbv;refine⟨⟨_,rfl,rfl⟩,?_⟩;cbv;refine bc (b _ _ g) ?_;cbv;refine⟨⟨_,rfl,rfl⟩,?_⟩;cbv;exact s _ _ (n.trans b) (qH f) C w
    |false=>exact absurd (ra f) (by rw[m];by_cases h0:p=0<;>simp[h0])
   |false=>
    have r:=F.mono B;have n:Le h h4:=S.trans B;obtain⟨E,m⟩:∃E,E=p:=⟨_,rfl⟩;rw[<-m]at r;have C:eo d ⟨nm,k,key,only⟩ false=E:=by unfold eo;rw[m,<-xj,<-hg,<-hw];by_cases h0:p=0<;>simp[h0]
    cbv;obtain⟨P,m2,x3,m3,H,x4,m4,k4,o,g,go,G,T,U,V,Y,Z⟩:=r.out;generalize f:A .az .neq E 0=u;rw[av A]at f;rw[ao A];refine bc g ?_;cbv;rw[av A,f];cases u with
    |true=>cbv;rw[ao A];refine bc g ?_;cbv;refine(wP (q.mono n)).mono (λv M hR=>?_);obtain⟨b,a⟩:=hR;have a:=a.base n;have w:=a;obtain⟨b1,n1,c1,b2,n2,c2,b3,n3,c3,b4,n4,c4,rfl⟩:=a.form;cbv;refine bc (b _ _ g) ?_;cbv;refine⟨⟨_,rfl,rfl⟩,?_⟩;cbv;refine bc (b _ _ g) ?_;cbv;refine⟨⟨_,rfl,rfl⟩,?_⟩;cbv;exact s _ _ (n.trans b) (qH f) C w
    |false=>
     have Ug:E=0:=by have:=ra f;omega
     cbv;rw[ao A];rw[ao A];refine bc g ?_;cbv;have sT:bu.R h4 [.string nm,.slice sb sn sc,.int .i64 key,.bool only,.slice none 0 0] ⟨⟨nm,k,key,only⟩,[]⟩:=⟨_,_,_,_,_,_,rfl,qs.mono (n.t _),Sl.nil⟩;refine(PV sT).mono (λv M hR=>?_);obtain⟨b,d0,d1,d2,d3,d4,rfl,rT⟩:=hR;obtain⟨w1,w2,w3,w4,w5,w6,he,au,an⟩:=rT;cases he;have K:=b _ _ g;cbv;refine bc K ?_;cbv;refine⟨⟨_,rfl,rfl⟩,?_⟩;cbv;intro nb h7 dV e7;have I:Le M h7:=by rw[e7];exact Le.set dV
     have gx:=(congrFun e7 nb).trans ae;have sx:Sl 100 bu h7 (.slice (some ⟨nb,0,none⟩) 1 1) [(⟨⟨nm,k,key,only⟩,[]⟩:bM)]:=by
      refine Sl.fresh (xs:=[(⟨⟨nm,k,key,only⟩,[]⟩:bM)]) gx ⟨by simp[bu],λj y hj=>?_⟩ (by simp) (by simp);have AJ:j=0:=by have:=(dB.1 hj).1;simp at this;exact this
      subst AJ;simp at hj;subst hj;exact⟨_,_,_,_,_,_,rfl,au.mono (I.t _),an.mono (I.t _)⟩
     have J:=I _ _ K;have em:P=ct:=by rw[G,Ov]
     subst em;have jZ:i<=P:=by have:=(yZ (d.al.map λx=>cU x.S.name nm) 0 (d.al.map λx=>cU x.S.name nm).length (qT _)).1;rw[hi,G];simpa using this
     cbv;refine bc J ?_;cbv;refine⟨⟨_,rfl,rfl⟩,?_⟩;cbv;refine(GA ((T.sl G).mono ((b.trans I).t _)) sx hz jZ (by omega)).mono (λv h8 hR=>?_);obtain⟨l8,ak,aw,m5,rfl,aP,ai,ot⟩:=hR;have Q:=l8 _ _ J;cbv;rw[ao A];rw[ao A];refine iB Q (by simp) (λh9 e9=>?_);have aj:=(congrFun e9 c).trans ae;have k9:Kp [c] h8 h9:=by rw[e9];exact Kp.set (by simp)
     have t9:∀tys,226∉tys->cf tys h8 h9:=λtys hn=>by rw[e9];exact cf.set Q hn
     have YS:Le h h9:=(((n.trans b).trans I).trans l8).aE (by simpa using D) k9;have MZ:gv h9 (.agg #[.slice (some ⟨ak,0,none⟩) m5 aw,.slice (some ⟨wb,0,none⟩) m2 cw,.slice x3 m3 H,.slice x4 m4 k4]) (ba d (d.al.take i++[⟨⟨nm,k,key,only⟩,[]⟩]++d.al.drop i)):=by
      have X:=(b.trans I).trans l8;refine⟨_,_,_,_,_,_,_,_,_,_,_,_,_,rfl,(ot.sl ?_).mono (t9 _ (by decide)),((V.sl U).mono (X.t _)).mono (t9 _ (by decide)),(Y.mono (X.t _)).mono (t9 _ (by decide)),(Z.mono (X.t _)).mono (t9 _ (by decide)),?_⟩
      .rw[ai];simp;omega
      rw[hW];simp[ba,Function.comp_def]
     cbv;rw[ao A];refine bc aj ?_;cbv;refine(wP MZ).mono (λv lI hR=>?_);obtain⟨pM,a⟩:=hR;have a:=a.base YS;have gA:eC d ⟨nm,k,key,only⟩ i false=(ba d (d.al.take i++[⟨⟨nm,k,key,only⟩,[]⟩]++d.al.drop i),0):=by unfold eC;rw[if_pos (C.trans Ug)]
     have w:=a;generalize ba d (d.al.take i++[⟨⟨nm,k,key,only⟩,[]⟩]++d.al.drop i)=d' at *;obtain⟨b1,n1,c1,b2,n2,c2,b3,n3,c3,b4,n4,c4,rfl⟩:=a.form;cbv;exact⟨_,0,z,i,false,rfl,YS.trans pM,by rw[gA];exact w,by rw[gA],hz,hb⟩
theorem JN{h:ab}{v:Value}(q:gv h v d){key:Int}{s:Option Addr}{n j:Nat}(A:Sl 58 bt h (.slice s n j) a)(m:Small d)(r:cm d ⟨nm,a,key,only⟩=D)
  (w:dQk h D.1 D.2 k):Ct 59 [v,.agg #[.string nm,.slice s n j,.int .i64 key,.bool only]] h k:=
 (Nt q A m.al m.aj).mono (λv h' hR=>by
  obtain⟨B,e,z,i,is,x,l,c,f,y,t⟩:=hR;obtain⟨o,p⟩:=t.at_;have u:=Ek y o;have b:eC d ⟨nm,a,key,only⟩ i is=D:=by rw[<-r,u,p];rfl
  rw[b]at c f;obtain⟨b1,n1,c1,b2,n2,c2,b3,n3,c3,b4,n4,c4,g⟩:=c.form;rw[x,g,f];exact w h' _ _ _ _ _ _ _ _ _ _ _ _ l (by rw[<-g];exact c))
theorem Xd{h:ab}{v:Value}(q:gv h v d)(n:ByteArray)(s:dD d n=D)
 (w:dQk h D.1 D.2 k):Ct 65 [v,.string n] h k:=by
 obtain⟨b1,n1,c1,b2,n2,c2,b3,n3,c3,b4,n4,c4,rfl⟩:=q.form;have xV:n2=d.aj.length:=by obtain⟨_,_,_,_,_,_,_,_,_,_,_,_,ws,he,_,qw,_,_,x⟩:=q.out;cases he;rw[qw.len,<-x,hJT]
 refine cp dZn Tryz.func65 λA r=>?_;cbv;refine oE q (λh1 c tb wb ct cw W l1 hc nS yy pX oZ hW Ov Ou cs=>?_);have cs:=cs.new hW;cbv;refine uG cs n (λh2 z t L I y=>?_);have O:=l1.trans L;have P:=q.mono O;cases t with
 |false=>
  have f:D=(d,2):=by rw[<-s];unfold dD;rw[<-y];rfl
  subst f;cbv;rw[show A .not false=true by rw[r.not];rfl];cbv;refine Eb P (λb b1 n1 c1 b2 n2 c2 b3 n3 c3 b4 n4 c4 E j=>?_);have a:=w b b1 n1 c1 b2 n2 c2 b3 n3 c3 b4 n4 c4 (O.trans E) (j.base O);cbv;exact a
 |true=>
  have S:dE (aF d.al n)<d.al.length:=by have:=kV y.symm;simpa[aF]using this
  have f:D=if decide ((d.aj.length:Int)>0)=true then(d,18)else(⟨d.al.eraseIdx (dE (aF d.al n)),d.aj,d.holds,d.waits⟩,0):=by rw[<-s];unfold dD;rw[<-y];rfl
  clear s;generalize dE (aF d.al n)=i at *;generalize p:A .az .gtr (A .nat n2) 0=u;have fu:=p;rw[aO A,r.nat,xV,show Int.ofNat d.aj.length=(d.aj.length:Int)from rfl]at p;rw[p]at f;cbv;rw[show A .not true=false by rw[r.not];rfl];cbv;rw[fu];cases u with
  |true=>have f:D=(d,18):=f;subst f;cbv;refine Eb P (λb b1 n1 c1 b2 n2 c2 b3 n3 c3 b4 n4 c4 E j=>?_);have a:=w b b1 n1 c1 b2 n2 c2 b3 n3 c3 b4 n4 c4 (O.trans E) (j.base O);cbv;exact a
  |false=>
   have f:D=(⟨d.al.eraseIdx i,d.aj,d.holds,d.waits⟩,0):=f;subst f;have Q:=cs.mono L;refine Q.elim (λN m2 x3 m3 l x4 m4 B o g ho T H U V X Y _=>?_);have iD:=H.bd;have gz:=I.succ (A:=A);have Z:(d.al.eraseIdx i).length=N-1:=by rw[iQu S];omega
   cbv;rw[ao A];rw[ao A];refine bc g ?_;cbv;refine Hk H T I gz (by omega) (λb m x l t3 o3=>?_);have J:b c=h2 c:=(l _ _ g (by simpa using pX)).trans g.symm;have F:=λe hh=>iL.Kq (h':=e) g ho U V X Y (x.trans Z.symm) t3 J o3 hh;have C:=J.trans g;cbv;rw[ao A];rw[ao A];refine iB C (by simp) (λe G=>?_);obtain⟨B,R⟩:=F e G;clear F G;have M:Le h e:=O.aE (bs:=[tb,c]) (by simp[hc,nS]) ((l.sub (by simp)).trans (B.sub (by simp)));refine R.elim (λN m2 x3 m3 l x4 m4 B o g _ _ _ _ _ _ _ K=>?_);rw[EV]at K;cbv;rw[ao A];refine bc g ?_;cbv;refine Eb K (λh5 b1 n1 c1 b2 n2 c2 b3 n3 c3 b4 n4 c4 l5 j=>?_);have a:=w h5 b1 n1 c1 b2 n2 c2 b3 n3 c3 b4 n4 c4 (M.trans l5) (j.base M);cbv;exact a
set_option maxHeartbeats 400000
theorem vV.x{h h':ab}{b:List Bs}{ex:List Nat}(q:vV h m b)(l:cY ex h h'):vV h' m b:=by obtain⟨a,j,d⟩:=q.out;obtain⟨s,c,g,r⟩:=d.out;exact⟨a,j,⟨s,c,l _ _ g (λ_ _ _ e=>by cases e),r⟩⟩
theorem Hj{h0 h:ab}{p mp:Nat}{od ol os:Int}{fb:Option Addr}{fm fc:Nat}{b1 b2 b3 b4 b5 b6:Option Addr}{n1 c1 n2 c2 n3 c3 n4 c4 n5 c5 n6 c6:Nat}{D:Int}
 (q:TM h0 h p od ol os fb fm fc f [.slice b1 n1 c1,.slice b2 n2 c2,.slice b3 n3 c3,.slice b4 n4 c4,.int .i64 D,.slice b5 n5 c5,.slice b6 n6 c6,.map (some mp)]) {a:List Bs} (qm:vV h mp a) (VY:∀x∈a,x.length=32) {e:Nat} {b:Option Addr} {c:Nat} {ds:List Dg} (v:Sl e zQ h0 (.slice b m c) ds) 
 (s:∀h' fb fm fc,cY RI h h'->TM h0 h' p od ol os fb fm fc (oD a f ds) [.slice b1 n1 c1,.slice b2 n2 c2,.slice b3 n3 c3,.slice b4 n4 c4,.int .i64 D,.slice b5 n5 c5,.slice b6 n6 c6,.map (some mp)]->k (.tuple #[]) h'):
 Ct 50 [.pointer (some ⟨p,0,none⟩),.slice b m c] h k:=by
 have ai:=v.len;obtain⟨J,X⟩:∃J:Nat->Int->ab->Prop,∀w z h',J w z h'=(∃i fb fm fc o,aM z i/\i<=m/\w=m-i/\cY RI h h'/\TM h0 h' p od ol os fb fm fc o [.slice b1 n1 c1,.slice b2 n2 c2,.slice b3 n3 c3,.slice b4 n4 c4,.int .i64 D,.slice b5 n5 c5,.slice b6 n6 c6,.map (some mp)]/\oD a f ds=oD a o (ds.drop i)):=⟨_,λ_ _ _=>rfl⟩;have Q:J m 0 h:=by rw[X];exact⟨0,fb,fm,fc,f,⟨rfl⟩,by omega,by omega,cY.refl _ _,q,rfl⟩
 refine cp fKI Tryz.func50 λA hA=>?_;cbv;refine aK.go (G:=Int) (λz=>[(10,.v (.int .i64 z))]) (λ_=>[]) (λw z h'=>J w z h') m 0 (by constructor<;>cbv) Q ?_
 intro w z W Z;rw[X]at Z;cbv;obtain⟨i,fb,fm,fc,o,C,hi,hw,H,u,r⟩:=Z;have N:A .az .lss z (A .nat m)=decide (i<m):=C.pL (aM.nat m);rw[N];by_cases B:i<m
 .rw[aH B];obtain⟨d,hx⟩:=di ds i;have Y:oD a o (ds.drop i)=oD a (bT (AO a d) o ⟨6,d.block,0,0⟩) (ds.drop (i+1)):=by rw[qM (by omega:i<ds.length)];have:=(dB.1 hx).2;rw[this];rfl
  rw[Y]at r;have F:∀h' fb fm fc,cY RI h h'->TM h0 h' p od ol os fb fm fc (bT (AO a d) o ⟨6,d.block,0,0⟩) [.slice b1 n1 c1,.slice b2 n2 c2,.slice b3 n3 c3,.slice b4 n4 c4,.int .i64 D,.slice b5 n5 c5,.slice b6 n6 c6,.map (some mp)]->J (m-(i+1)) (A .aC .add .i64 z 1) h':=λh' fb fm fc a1 a2=>by
   rw[X];exact⟨i+1,fb,fm,fc,_,C.succ (A:=A) (by have:=v.bound;omega),B,rfl,a1,a2,r⟩
  have I:m-(i+1)<w:=by omega
  obtain⟨E,vA⟩:∃E,E=m-(i+1):=⟨_,rfl⟩;rw[<-vA]at F I;have jB:=v.aR;have ix:=C.ix B;have S:=v.mono (u.le.t _);have M:∃g,hl g=aA d.hash/\d.hash.length=32:=by
   obtain⟨bb,cap,e1,y,h3,O⟩:=v.out;rcases O with O| ⟨dM,off,cc,fr,y1,y2,y3⟩
   .subst O;cases hx
   obtain⟨g,-,a2,V⟩:=y3.2 i d hx;exact⟨g,a2,V⟩
  obtain⟨g,hg,Lm⟩:=M;have CW:∀cs,zQ.R W cs d->cs=fQb d.block g:=λcs L=>by
   obtain⟨g',a1,a2,V⟩:=L;rw[a1];show(.int .i64 d.block::hl g')=(.int .i64 d.block::hl g);rw[a2,hg]
  have g1:=u.out;have P:=qm.x H;clear X Q Y r N s;cbv;refine⟨⟨jB,ix⟩,?_⟩;cbv;refine S.load hx C.eq (λcs L=>?_);rw[CW cs L];cbv;repeat (first|rw[ao A] | (refine bc g1 ?_;cbv)|(refine⟨⟨_,rfl,rfl⟩,?_⟩;cbv))
  refine Pn P d.block (λmZ=>?_) (λj g2 b2 hn hb By=>?_)
  .have R:AO a d=false:=by
    unfold AO;split
    .rfl
    rw[qk (by omega)];rfl
   rw[R]at F;cbv;refine JB u false ⟨6,d.block,0,0⟩ (λy n K l U T=>?_);have:=F y n K l (H.trans U) T;clear F;cbv;refine⟨E,_,I,by constructor<;>cbv,this⟩
  have R:AO a d=decide (b2=d.hash):=by unfold AO;rw[if_neg (by omega),show(d.block-1).toNat=j by omega,hb];exact decide_eq_decide.2 ⟨λe=>Option.some.inj e,λe=>by rw[e]⟩
  rw[R]at F;have Jw:=VY b2 (kF hb);cbv;refine yV By hg Jw Lm ?_;generalize decide (b2=d.hash)=t at *;cbv;refine JB u t ⟨6,d.block,0,0⟩ (λy n K l U T=>?_);have:=F y n K l (H.trans U) T;clear F;cbv;refine⟨E,_,I,by constructor<;>cbv,this⟩
 rw[ag B];rw[wM (show ds.length<=i by omega)]at r;have e0:oD a f ds=o:=r;rw[e0]at s;have s:=s W fb fm fc H u;clear X Q N;cbv;exact s
theorem _root_.Go.Sx.aT.call{a:Type}{e:Nat}{s:Sh a}{h0 h gL h':ab}{v:Value}{xs:List a}(q:aT e s h0 h v xs)(l:Le h h')(fr:Fr h0 h gL h'):aT e s gL h' v xs:=by
 rcases q.out with g| ⟨n,cap,b,d,o⟩
 .exact⟨.inl g⟩
 obtain⟨c,f,-⟩:=o.out;exact⟨.inr ⟨n,cap,b,(fr n _ d f).2,o.mono (l.t _)⟩⟩
theorem stat{f:FuncId}{args:List Value}{h0 h:ab}{P:Value->ab->Prop}(l:Le h0 h)(c:Ct f args h0 (λv h'=>Le h0 h'/\P v h'))
 (b:∀v gL h',P v gL->Le h0 gL->Le gL h'->Le h h'->Fr h0 h gL h'->k v h'):Ct f args h k:=
 Ca.WN l c (λv s h' hR a fr=>b v s h' hR.2 hR.1 a (fr.le l hR.1 a) fr)
structure jb(h0 h:ab)(p mp:Nat)(od ol os:Int)(fb:Option Addr)(fm fc:Nat)(b1:Option Addr)(n1 c1:Nat)(b2:Option Addr)(n2 c2:Nat)(b3:Option Addr)(n3 c3:Nat)(b4:Option Addr)(n4 c4:Nat)(b5:Option Addr)(n5 c5:Nat)(b6:Option Addr)(n6 c6:Nat)(bl:List Kf)(v:VS):Prop where
 fn:TM h0 h p od ol os fb fm fc v.found [.slice b1 n1 c1,.slice b2 n2 c2,.slice b3 n3 c3,.slice b4 n4 c4,.int .i64 v.next,.slice b5 n5 c5,.slice b6 n6 c6,.map (some mp)]
 tb:aT 100 bu h0 h (.slice b1 n1 c1) v.d.al
 db:gv h (.agg #[.slice b1 n1 c1,.slice b2 n2 c2,.slice b3 n3 c3,.slice b4 n4 c4]) v.d
 op:aT 104 iM h0 h (.slice b5 n5 c5) v.open_
 bk:aT 344 Pw h0 h (.slice b6 n6 c6) bl
 bn:bl.length=v.bG.length
 sm:vV h mp v.bG
 nm:h0 mp=none
variable {h0 h gL h':ab}{p mp:Nat}{od ol os:Int}{fb:Option Addr}{fm fc:Nat}{b1 b2 b3 b4 b5 b6:Option Addr}{n1 c1 n2 c2 n3 c3 n4 c4 n5 c5 n6 c6:Nat}{bl:List Kf}
theorem jb.le{v:VS}(q:jb h0 h p mp od ol os fb fm fc b1 n1 c1 b2 n2 c2 b3 n3 c3 b4 n4 c4 b5 n5 c5 b6 n6 c6 bl v)(l:Le h h'):jb h0 h' p mp od ol os fb fm fc b1 n1 c1 b2 n2 c2 b3 n3 c3 b4 n4 c4 b5 n5 c5 b6 n6 c6 bl v:=
 ⟨⟨l _ _ q.fn.out,q.fn.buf.mono (l.t _),q.fn.new,q.fn.le.trans l⟩,q.tb.mono (l.t _),q.db.mono l,q.op.mono (l.t _),q.bk.mono (l.t _),q.bn,q.sm.x (l.x []),q.nm⟩
theorem jb.call{v:VS}(q:jb h0 h p mp od ol os fb fm fc b1 n1 c1 b2 n2 c2 b3 n3 c3 b4 n4 c4 b5 n5 c5 b6 n6 c6 bl v)(l:Le h h')(a:Le gL h')(fr:Fr h0 h gL h'):jb gL h' p mp od ol os fb fm fc b1 n1 c1 b2 n2 c2 b3 n3 c3 b4 n4 c4 b5 n5 c5 b6 n6 c6 bl v:=
 ⟨⟨
  l _ _ q.fn.out,q.fn.buf.call l fr,(fr _ _ q.fn.new q.fn.out).2,a⟩,q.tb.call l fr,q.db.mono l,q.op.call l fr,q.bk.call l fr,q.bn,q.sm.x (l.x []),by
  obtain⟨b,s,m⟩:=q.sm.out;obtain⟨e,c,g,r⟩:=m.out;exact(fr _ _ q.nm g).2⟩
theorem jb.dXT{o:List Bs}{Q:List Fd}{c:Option Addr}{a z:Nat}(q:jb h0 h p mp od ol os fb fm fc b1 n1 c1 b2 n2 c2 b3 n3 c3 b4 n4 c4 b5 n5 c5 b6 n6 c6 bl ⟨d,n,o,s,f⟩)(x:cY RI h h')
 (b:TM h0 h' p od ol os c a z Q [.slice b1 n1 c1,.slice b2 n2 c2,.slice b3 n3 c3,.slice b4 n4 c4,.int .i64 n,.slice b5 n5 c5,.slice b6 n6 c6,.map (some mp)]):
 jb h0 h' p mp od ol os c a z b1 n1 c1 b2 n2 c2 b3 n3 c3 b4 n4 c4 b5 n5 c5 b6 n6 c6 bl ⟨d,n,o,s,Q⟩:=
 ⟨b,q.tb.mono (x.t (by decide)),q.db.ls (x.t (by decide)),q.op.mono (x.t (by decide)),q.bk.mono (x.t (by decide)),q.bn,q.sm.x x,q.nm⟩
theorem vg{a:List Bs}(q:jb h0 h p mp od ol os fb fm fc b1 n1 c1 b2 n2 c2 b3 n3 c3 b4 n4 c4 b5 n5 c5 b6 n6 c6 bl ⟨d,n,a,s,o⟩)(i:Bool)(f:Fd)
 (b:∀h' fb fm fc,cY RI h h'->jb h0 h' p mp od ol os fb fm fc b1 n1 c1 b2 n2 c2 b3 n3 c3 b4 n4 c4 b5 n5 c5 b6 n6 c6 bl ⟨d,n,a,s,bT i o f⟩->k (.tuple #[]) h'):
 Ct 41 [.pointer (some ⟨p,0,none⟩),.bool i,.agg (List.toArray (cQy f))] h k:=
 JB q.fn i f (λh' fb fm fc x c=>b h' fb fm fc x (q.dXT x c))
theorem Pa{a:List Bs}(q:jb h0 h p mp od ol os fb fm fc b1 n1 c1 b2 n2 c2 b3 n3 c3 b4 n4 c4 b5 n5 c5 b6 n6 c6 bl ⟨d,n,a,s,o⟩)(f:Fd)
 (b:∀h' fb fm fc,cY RI h h'->jb h0 h' p mp od ol os fb fm fc b1 n1 c1 b2 n2 c2 b3 n3 c3 b4 n4 c4 b5 n5 c5 b6 n6 c6 bl ⟨d,n,a,s,iS o f⟩->k (.tuple #[]) h'):
 Ct 45 [.pointer (some ⟨p,0,none⟩),.agg (List.toArray (cQy f))] h k:=
 Yv q.fn f (λh' fb fm fc x c=>b h' fb fm fc x (q.dXT x c))
end Go.S
