import Derived.Test.YtifjeceolckgaaaGreatMB
set_option linter.all false
set_option maxRecDepth 100000
set_option maxHeartbeats 8000000
namespace Go.S
open Go.Sx Go.Proofs
variable {b:Type}{d:DB}{s:Int}{i n:Nat}{r:Row}{x:b}{p:b->Bool}{w:fJ}
theorem SC.Ko(q:SC d)(h:d.holds.length<=n)(W:d.waits.length<=n):ue n d:=by
 refine⟨?_,q.jC,q.pH,λt a=>?_,h,W,λx hx=>?_⟩
 .have:=q.tw.le;omega
 .have:=(q.tw.ok t a).2.2.1.le;omega
 obtain⟨w,b,e⟩:=q.hw x hx;have:=q.pH w b;omega
theorem IF:∀a b c:List UInt8,Lib.compareBytes a b<0->Lib.compareBytes b c<0->Lib.compareBytes a c<0
 | [],_,[],d,h=>by
  rename_i b;cases b with
  |nil=>simp[Lib.compareBytes]at d
  |cons y b=>simp[Lib.compareBytes]at h
 | [],_,z::c,d,h=>by simp[Lib.compareBytes]
 |x::a,[],_,d,h=>by simp[Lib.compareBytes]at d
 |x::a,y::b,[],d,h=>by simp[Lib.compareBytes]at h
 |x::a,y::b,z::c,d,h=>by
  have i:=IF a b c;unfold Lib.compareBytes at d h |-;have lt:∀p q:UInt8,p<q↔p.toNat<q.toNat:=λp q=>mZI;by_cases a1:x<y
  .rw[if_pos a1]at d;by_cases f:y<z
   .have:x<z:=by rw[lt]at a1 f |-;omega
    rw[if_pos this];decide
   rw[if_neg f]at h;by_cases g:z<y
   .rw[if_pos g]at h;exact absurd h (by decide)
   have:x<z:=by rw[lt]at a1 f g |-;omega
   rw[if_pos this];decide
  rw[if_neg a1]at d;by_cases a2:y<x
  .rw[if_pos a2]at d;exact absurd d (by decide)
  rw[if_neg a2]at d;have e:x=y:=by rw[lt]at a1 a2;exact mZg.1 (by omega)
  subst e;by_cases f:x<z
  .rw[if_pos f];decide
  rw[if_neg f]at h |-;by_cases g:z<x
  .rw[if_pos g]at h;exact absurd h (by decide)
  rw[if_neg g]at h |-;exact i d h
theorem IG{a b c:ByteArray}(h:eC a b<0)(d:eC b c<0):eC a c<0:=by unfold eC at *;exact IF _ _ _ h d
theorem Sc:∀ {l:List b},x∈l.takeWhile p->p x=true
 | [],h=>by cases h
 |y::r,h=>by
  cases a:p y with
  |true=>
   rw[mJz a]at h;rcases mQI.1 h with rfl|h
   .exact a
   exact Sc h
  |false=>rw[mKo (by rw[a];simp)]at h;cases h
theorem LD:∀ {l:List b},l[(l.takeWhile p).length]? =some x->p x=false
 | [],h=>by simp at h
 |y::r,h=>by
  cases a:p y with
  |true=>rw[mJz a,mQM]at h;exact LD (l:=r) (by simpa using h)
  |false=>rw[mKo (by rw[a];simp)]at h;simp at h;rw[<-h];exact a
def Mo(d:DB):Prop:=∀w∈d.aq,w.marks.Pairwise (λa b=>a.at_<=b.at_)
structure SJ(n:Nat)(d:DB):Prop where
 sc:SC d
 mo:Mo d
 hn:d.holds.length<=n
 wn:d.waits.length<=n
theorem SJ.Ko(q:SJ n d):ue n d:=q.sc.Ko q.hn q.wn
theorem SJ.le{m:Nat}(q:SJ n d)(h:n<=m):SJ m d:=⟨q.sc,q.mo,mXT q.hn h,mXT q.wn h⟩
theorem yH(q:SJ n d)(hd:cg)(s:-2^63<=hd.s/\hd.s<2^63):SJ (n+1) (aL d hd).1:=by have h:=xZ q.Ko hd s;exact⟨(PU q.sc hd s).1,λw a=>q.mo w (h.sub.subset a),h.ok.holds,h.ok.waits⟩
theorem ZS(I:SI d)(k:0<=s/\s<8)(f:jG (bQ d.aq s)=false):∃i,di (bQ d.aq s)=i/\i<=d.aq.length/\(∀w∈d.aq.take i,w.s<s)/\∀w∈d.aq.drop i,s<w.s:=by
 obtain⟨i,b⟩:∃i,i=(d.aq.takeWhile λw=>decide (w.s<s)).length:=⟨_,rfl⟩;have l:i<=d.aq.length:=by rw[b];exact(nQH _).length_le
 have N:d.aq.take i=d.aq.takeWhile λw=>decide (w.s<s):=by rw[b];exact(nQG.1 (nQF _)).symm
 have F:∀w∈d.aq.take i,w.s<s:=λw h=>by
  rw[N]at h;have:=Sc h;exact mQL this
 have c:∀w,d.aq[i]? =some w->¬w.s<s:=λw h=>by
  rw[b]at h;have:=LD (p:=λw:fJ=>decide (w.s<s)) h;exact mQO this
 have e:∀w∈d.aq,w.s≠s:=λw h g=>by
  have:=(lR I.jC I.pH (s:=s) (by omega)).2 ⟨w,h,g⟩;rw[f]at this;cases this
 refine⟨i,NW I k l (λj w a h=>F w (mQz (by rw[mXl,if_pos a];exact h))) c,l,F,λw h=>?_⟩;obtain⟨j,a⟩:=mXh h;rw[mXr]at a;obtain⟨w0,E⟩:=aE (xs:=d.aq) (i:=i) (by have:=(mQB.1 a).1;omega);have h0:=c w0 E;have m:=e w0 (mQz E);cases j with
 |zero=>rw[mJr,E]at a;cases a;omega
 |succ j=>have:=mQZ.1 I.jC i (i+(j+1)) (mQB.1 E).1 (mQB.1 a).1 (by omega);rw[(mQB.1 E).2,(mQB.1 a).2]at this;omega
theorem aXT(q:SJ n d)(t:n<=2^17)(s:Int):SJ n (dy d s).1:=by
 unfold dy jh;split
 .exact q
 rename_i l;have k:0<=s/\s<8:=by simp at l;omega
 split
 .exact q
 rename_i m;have f:jG (bQ d.aq s)=false:=by simpa using m
 obtain⟨i,p,r,F,T⟩:=ZS (q.sc.si q.Ko t) k f;rw[p];have V:∀w,w∈d.aq.take i++[(⟨s,[],[]⟩:fJ)]++d.aq.drop i->w∈d.aq\/w=⟨s,[],[]⟩:=λw e=>by
  rcases mQE.1 e with e|e
  .rcases mQE.1 e with e|e
   .exact .inl (mXF e)
   simp at e;exact .inr e
  exact .inl (mXZ e)
 have Z:∀w,w∈d.aq->w∈d.aq.take i++[(⟨s,[],[]⟩:fJ)]++d.aq.drop i:=λw e=>by
  rw[<-mXo i d.aq]at e;rcases mQE.1 e with e|e
  .exact mQE.2 (.inl (mQE.2 (.inl e)))
  exact mQE.2 (.inr e)
 refine⟨⟨q.sc.tw,?_,λw e=>?_,λw e=>?_,λw e=>?_,q.sc.hu,λx hx=>?_,q.sc.hc,λw e c j=>?_⟩,λw e=>?_,q.hn,q.wn⟩
 .show(d.aq.take i++[(⟨s,[],[]⟩:fJ)]++d.aq.drop i).Pairwise _;have H:=q.sc.jC;rw[<-mXo i d.aq,mXw]at H;obtain⟨s1,s2,u⟩:=H;rw[mXk,mXw];refine⟨s1,?_,λa g b f=>?_⟩
  .rw[nQE,mXA];exact⟨λb f=>T b f,s2⟩
  rcases mQI.1 (by simpa using f:b∈(⟨s,[],[]⟩:fJ)::d.aq.drop i)with rfl|f
  .exact F a g
  exact u a g b f
 .rcases V w e with h|rfl
  .exact q.sc.pH w h
  exact k
 .rcases V w e with h|rfl
  .exact q.sc.log w h
  exact⟨λx hx=>(by cases hx),by simp⟩
 .rcases V w e with h|rfl
  .exact q.sc.VG w h
  exact⟨by simp,λx hx=>(by cases hx)⟩
 .obtain⟨w,e,o⟩:=q.sc.hw x hx;exact⟨w,Z w e,o⟩
 .rcases V w e with h|rfl
  .exact q.sc.lg w h c j
  cases j
 rcases V w e with h|rfl
 .exact q.mo w h
 exact List.Pairwise.nil
theorem DK{w':fJ}(f:d.aq[i]? =some w)(s:w'.s=w.s):(∀x∈d.aq.set i w',x∈d.aq\/x=w')/\(∀x∈d.aq,∃y∈d.aq.set i w',y.s=x.s)/\((d.aq.Pairwise (λa b=>a.s<b.s))->(d.aq.set i w').Pairwise (λa b=>a.s<b.s)):=by
 have l:=(mQB.1 f).1;refine⟨λx hx=>mXz hx,λx hx=>?_,λh=>?_⟩
 .obtain⟨j,c⟩:=mXh hx;by_cases K:i=j
  .subst K;rw[f]at c;cases c;exact⟨w',mZF.2 ⟨i,mZi l⟩,s⟩
  exact⟨x,mZF.2 ⟨j,by rw[mJm K];exact c⟩,rfl⟩
 rw[mQZ];have e:∀j (c:j<(d.aq.set i w').length),(d.aq.set i w')[j].s=(d.aq[j]'(by simpa using c)).s:=λj c=>by
  rw[mJe];split
  .rename_i e;subst e;rw[s,<-(mQB.1 f).2]
  rfl
 intro a b g k G;rw[e a g,e b k];exact mQZ.1 h a b _ _ G
theorem Lq{hd:cg}{l:DB}{j:Nat}{t s:cW}(g:Dv n hd l i w j t)(r:Mo l)(hx:hd.x=true)(S:s.S=t.S)(F:SO s.rows){x:dV}(v:x.table=hd.table)(A:fK x.row)(B:x.op=1\/x.op=2)(L:w.log.length<60):
 SJ (n+1) ⟨l.az.set j s,l.aq.set i ⟨w.s,w.log++[x],w.marks⟩,l.holds,l.waits⟩:=by
 have q:=g.sc;have W:(l.az.set j s).map (·.S)=l.az.map (·.S):=by
  apply mXM;intro k;rw[mXe,mXe,mXR];split
  .rename_i e;subst e;rw[g.tj];have:=(mQB.1 g.tj).1;simp[this,S]
  rfl
 obtain⟨p,H,I⟩:=DK (w':=⟨w.s,w.log++[x],w.marks⟩) g.wi rfl;have J:=mQz g.wi;refine⟨⟨q.tw.set g.tj S F,I q.jC,λy f=>?_,λy f=>?_,λy f=>?_,q.hu,λz d=>?_,q.hc,λy f c o=>?_⟩,λy f=>?_,g.ok.holds,g.ok.waits⟩
 .rcases p y f with h|rfl
  .exact q.pH y h
  exact q.pH w J
 .rcases p y f with h|rfl
  .obtain⟨a,b⟩:=q.log y h;exact⟨λz d=>(a z d).map W,b⟩
  obtain⟨a,b⟩:=q.log w J;refine⟨λz d=>?_,by simp;omega⟩;rcases mQE.1 d with d|d
  .exact(a z d).map W
  simp at d;subst d;exact FV.map ⟨A,B,t,mQz g.tj,by rw[v];exact g.tn⟩ W
 .rcases p y f with h|rfl
  .exact q.VG y h
  obtain⟨a,b⟩:=q.VG w J;refine⟨a,λm r=>?_⟩;obtain⟨k,C,K⟩:=b m r;exact⟨k,C,by simp;omega⟩
 .obtain⟨y,f,D⟩:=q.hw z d;obtain⟨y2,G,E⟩:=H y f;exact⟨y2,G,E.trans D⟩
 .rcases p y f with h|rfl
  .exact q.lg y h c o
  rcases mQE.1 o with o|o
  .exact q.lg w J c o
  simp at o;subst o;obtain⟨z,d,a1,a2,u⟩:=g.hl;exact⟨z,d,a1.trans g.ws.symm,by rw[a2,v],by rw[hx]at u;simpa using u⟩
 rcases p y f with h|rfl
 .exact r y h
 exact r w J
theorem bJt{S:FR}(a:S.cols=bp)(b:S.key=0){R:List Row}(h:SO R)(d:fK r\/r.length≠2){T:cW×Int}(c:bK ⟨S,R⟩ r=T):T.1.S=S/\SO T.1.rows:=by subst c;exact⟨lf _ _,UT a b h d⟩
theorem dXA(q:SJ n d)(s:Int)(nm:ByteArray)(k:-2^63<=s/\s<2^63)(f:fK r\/r.length≠2):SJ (n+1) (fF d s nm r).1:=by
 have h:=yH q ⟨s,nm,true⟩ k;obtain⟨⟨t,e⟩,H⟩:∃X,aL d ⟨s,nm,true⟩=X:=⟨_,rfl⟩;rw[H]at h;by_cases c:e=0
 .subst c;obtain⟨i,w,j,⟨S,R⟩,g⟩:=nQ q.sc q.Ko k H;obtain⟨v,x⟩:=Ki H g f (D:=fF d s nm r) rfl;obtain⟨l,m,p,-⟩:=g.sc.tw.ok _ (mQz g.tj);by_cases o:(w.log.length:Int)>=60
  .rw[v o];exact h
  obtain⟨T,b⟩:∃T,bK ⟨S,R⟩ r=T:=⟨_,rfl⟩;obtain⟨y,z⟩:=x o T b;obtain⟨A,B⟩:=bJt l m p f b;by_cases a:T.2=0
  .obtain⟨P,u⟩:=z a;rw[u];exact Lq g h.mo rfl A B rfl P (.inl rfl) (by omega)
  rw[y a];exact h
 have:fF d s nm r=(t,e):=oe H c _;rw[this];exact h
theorem bJW(q:SJ n d)(s:Int)(nm:ByteArray)(a:Int)(k:-2^63<=s/\s<2^63):SJ (n+1) (iz d s nm ⟨2,a,fQ⟩).1:=by
 have h:=yH q ⟨s,nm,true⟩ k;obtain⟨⟨r,e⟩,H⟩:∃X,aL d ⟨s,nm,true⟩=X:=⟨_,rfl⟩;rw[H]at h;by_cases f:e=0
 .subst f;obtain⟨i,w,j,⟨S,R⟩,g⟩:=nQ q.sc q.Ko k H;obtain⟨u,v⟩:=GI H g (a:=a) (D:=iz d s nm ⟨2,a,fQ⟩) rfl;obtain⟨E,m,p,-⟩:=g.sc.tw.ok _ (mQz g.tj);cases o:S.only with
  |true=>rw[u o];exact h
  |false=>
   obtain⟨x,y⟩:=v o;by_cases l:(w.log.length:Int)>=60
   .rw[x l];exact h
   obtain⟨T,b⟩:∃T,bH ⟨S,R⟩ ⟨2,a,fQ⟩=T:=⟨_,rfl⟩;obtain⟨z,A⟩:=y l T b;have B:T.1.S=S:=by rw[<-b];exact lE _ _
   have C:SO T.1.rows:=by rw[<-b];exact Oi m p a
   by_cases c:T.2.2=0
   .obtain⟨P,t⟩:=A c;rw[t];exact Lq g h.mo rfl B C rfl P (.inr rfl) (by omega)
   rw[z c];exact h
 have:iz d s nm ⟨2,a,fQ⟩=(r,e):=oe H f _;rw[this];exact h
theorem NX(q:SC d)(a:-2^63<=s/\s<2^63)(h:jG (bQ d.aq s)=true):∃w,d.aq[di (bQ d.aq s)]? =some w/\w.s=s:=yD q.pH a h
theorem gZS(q:SJ n d)(s:Int)(nm:ByteArray)(u:-2^63<=s/\s<2^63):SJ n (jT d s nm).1:=by
 unfold jT;split
 .rename_i j;obtain⟨w,l,p⟩:=NX q.sc u j;split
  .exact q
  rw[l];simp only;split
  .exact q
  rename_i g;have g:w.marks.length<10:=by simp at g;omega
  obtain⟨i,x,A⟩:=DK (w':=⟨w.s,w.log,w.marks++[⟨nm,(w.log.length:Int)⟩]⟩) l rfl;have J:=mQz l;have e:=q.sc;obtain⟨F,r⟩:=e.VG w J;refine⟨⟨e.tw,A e.jC,λy f=>?_,λy f=>?_,λy f=>?_,e.hu,λz v=>?_,e.hc,λy f c o=>?_⟩,λy f=>?_,q.hn,q.wn⟩
  .rcases i y f with h|rfl
   .exact e.pH y h
   exact e.pH w J
  .rcases i y f with h|rfl
   .exact e.log y h
   exact e.log w J
  .rcases i y f with h|rfl
   .exact e.VG y h
   refine⟨by simp;omega,λm g=>?_⟩;rcases mQE.1 g with g|g
   .exact r m g
   simp at g;subst g;exact⟨_,rfl,mQD _⟩
  .obtain⟨y,f,p⟩:=e.hw z v;obtain⟨y2,D,E⟩:=x y f;exact⟨y2,D,E.trans p⟩
  .rcases i y f with h|rfl
   .exact e.lg y h c o
   exact e.lg w J c o
  rcases i y f with h|rfl
  .exact q.mo y h
  show(w.marks++[_]).Pairwise _;rw[mXw];refine⟨q.mo w J,mJb _ _,λa t b j=>?_⟩;simp at j;subst j;obtain⟨k,B,C⟩:=r a t;show a.at_<=(w.log.length:Int);omega
 exact q
theorem SL{l:List oy}{nm:ByteArray}:∀ {i k:Nat},yL l nm i=some k->k<i/\k<l.length
 |0,k,h=>by cases h
 |i+1,k,h=>by
  unfold yL at h;split at h
  .rename_i m a;split at h
   .cases h;exact⟨by omega,(mQB.1 a).1⟩
   have:=SL h;exact⟨by omega,this.2⟩
  have:=SL h;exact⟨by omega,this.2⟩
theorem gZV(q:SJ n d)(s:Int)(nm:ByteArray)(L:-2^63<=s/\s<2^63):SJ n (kg d s nm).1:=by
 unfold kg;split
 .rename_i G;obtain⟨w,u,A⟩:=NX q.sc L G;rw[u];simp only;split
  .rename_i k H;obtain⟨U,M⟩:=SL H;obtain⟨C,N⟩:=aE (xs:=w.marks) (i:=k) M;have J:=mQz u;have f:=q.sc;obtain⟨V,B⟩:=f.VG w J;obtain⟨a,D,K⟩:=B C (mQz N);have F:fN (((w.marks[k]?).map (·.at_)).getD 0) w.log.length=a:=by rw[N];unfold fN;simp[D];omega
   rw[F];obtain⟨r,R,S⟩:=DK (w':=⟨w.s,w.log.take a,w.marks.take (k+1)⟩) u rfl;have Q:=BA f.tw (l:=w.log.drop a) (λx hx=>(f.log w J).1 x (mXZ hx));have W:=BB d.az (w.log.drop a);refine⟨⟨Q,S f.jC,λy g=>?_,λy g=>?_,λy g=>?_,f.hu,λz p=>?_,f.hc,λy g c v=>?_⟩,λy g=>?_,q.hn,q.wn⟩
   .rcases r y g with h|rfl
    .exact f.pH y h
    exact f.pH w J
   .rcases r y g with h|rfl
    .obtain⟨a1,a2⟩:=f.log y h;exact⟨λz p=>(a1 z p).map W,a2⟩
    obtain⟨a1,a2⟩:=f.log w J;exact⟨λz p=>(a1 z (mXF p)).map W,by simp;omega⟩
   .rcases r y g with h|rfl
    .exact f.VG y h
    refine⟨by simp;omega,λm t=>?_⟩;have t:m∈w.marks.take (k+1):=t;obtain⟨b,Y,T⟩:=B m (mXF t);refine⟨b,Y,?_⟩;have I:m.at_<=C.at_:=by
     obtain⟨j,o⟩:=mXh t;have X:=(mQB.1 o).1;rw[mQK]at X;rw[mXl,if_pos (by omega)]at o;rcases Nat.eq_or_lt_of_le (show j<=k by omega)with e|P
     .subst e;rw[N]at o;cases o;exact mZa _
     have:=mQZ.1 (q.mo w J) j k (mQB.1 o).1 (mQB.1 N).1 P;rw[(mQB.1 o).2,(mQB.1 N).2]at this;exact this
    show b<=(w.log.take a).length;rw[mQK];omega
   .obtain⟨y,g,A⟩:=f.hw z p;obtain⟨y2,O,E⟩:=R y g;exact⟨y2,O,E.trans A⟩
   .rcases r y g with h|rfl
    .exact f.lg y h c v
    exact f.lg w J c (mXF v)
   rcases r y g with h|rfl
   .exact q.mo y h
   exact(q.mo w J).sublist (List.take_sublist _ _)
  exact q
 exact q
end Go.S
