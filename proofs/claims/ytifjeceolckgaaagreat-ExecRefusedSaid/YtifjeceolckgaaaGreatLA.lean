import Derived.Test.YtifjeceolckgaaaGreatKA
set_option linter.all false
set_option maxRecDepth 100000
set_option maxHeartbeats 8000000
namespace Go.S
open Go.Sx Go.Proofs
variable {R:List Row}{i:Nat}{x:dV}
theorem Lm:∀a b:List UInt8,Lib.compareBytes a b=0↔a=b
 | [],[]=>by simp[Lib.compareBytes]
 | [],y::b=>by simp[Lib.compareBytes]
 |x::a,[]=>by simp[Lib.compareBytes]
 |x::a,y::b=>by
  unfold Lib.compareBytes;by_cases h:x<y
  .simp[h];intro e;subst e;exact absurd h (mKr x)
  by_cases c:y<x
  .simp[h,c];intro e;subst e;exact absurd c (mKr x)
  have:x=y:=by rw[mZI]at h c;exact mZg.1 (by omega)
  subst this;simp[h,Lm a b]
theorem QR:∀a b:List UInt8,Lib.compareBytes a b=- Lib.compareBytes b a
 | [],[]=>by simp[Lib.compareBytes]
 | [],y::b=>by simp[Lib.compareBytes]
 |x::a,[]=>by simp[Lib.compareBytes]
 |x::a,y::b=>by
  unfold Lib.compareBytes;by_cases h:x<y
  .have c:¬y<x:=by rw[mZI]at h |-;omega
   simp[h,c]
  by_cases c:y<x
  .simp[h,c]
  simp[h,c,QR a b]
theorem zI{a b:ByteArray}(h:eC a b=0):a=b:=by
 unfold eC at h;have:=(Lm _ _).1 h;cases a with
 |mk a=>
  cases b with
  |mk b=>congr 1;exact Array.ext' this
theorem Di(a b:ByteArray):eC a b=- eC b a:=by unfold eC;exact QR _ _
structure TW(T:List cW):Prop where
 jC:T.Pairwise (λa b=>eC a.S.name b.S.name<0)
 ok:∀t∈T,t.S.cols=bp/\t.S.key=0/\SO t.rows/\t.S.name.size<=12
 le:T.length<=8
theorem xm{T:List cW}(h:T.Pairwise (λa b=>eC a.S.name b.S.name<0)){t:cW}(c:T[i]? =some t):di (aQ T t.S.name)=i/\jG (aQ T t.S.name)=true:=by
 have k:=(mQB.1 c).1;have l:(aQ T t.S.name).length=T.length:=by simp[aQ]
 have get:∀j x,T[j]? =some x->(aQ T t.S.name).getD j 0=eC x.S.name t.S.name:=λj x hx=>by
  rw[mXE];unfold aQ;rw[mXe,hx];rfl
 refine dQq _ i (by omega) (by rw[get i t c];exact zJ _) (λj d=>?_) (λj d K=>?_)
 .obtain⟨x,hx⟩:=mQA T j;rw[get j x hx];have:=mQZ.1 h j i (mQB.1 hx).1 k d;rw[(mQB.1 hx).2,(mQB.1 c).2]at this;exact this
 obtain⟨x,hx⟩:=mQA T j;rw[get j x hx];have:=mQZ.1 h i j k (mQB.1 hx).1 d;rw[(mQB.1 hx).2,(mQB.1 c).2]at this;rw[Di]at this;omega
theorem UT{S:FR}(g:S.cols=bp)(d:S.key=0){r:Row}(h:SO R)(b:fK r\/r.length≠2):SO (bK ⟨S,R⟩ r).1.rows:=by
 rcases b with b|b
 .have i:=b.fits;have u:=b;obtain⟨a,v,rfl,-⟩:=u;obtain⟨p,q⟩:=h.sr.at_ a;rw[mJ (S:=S) d h.sr (by rw[g];exact i) q];by_cases e:kJ R a p=true
  .rw[if_pos e];exact h
  rw[if_neg e];by_cases c:decide ((R.length:Int)>=200)=true
  .rw[if_pos c];exact h
  rw[if_neg c];have c:R.length<200:=by simp at c;omega
  refine⟨h.sr.ins (v:=v) q (by simpa using e),λo f=>?_,?_⟩
  .rcases mQE.1 f with f|f
   .rcases mQE.1 f with f|f
    .exact h.ok o (mXF f)
    simp at f;rw[f];exact b
   exact h.ok o (mXZ f)
  have:=q.le;simp;omega
 have:dg S.cols r=1:=by
  unfold dg;have d:S.cols.length=2:=by rw[g];rfl
  rw[if_pos (mQu (by rw[d];omega))]
 unfold bK;simp only;rw[this];exact h
theorem Oi{S:FR}(c:S.key=0)(h:SO R)(a:Int):SO (bH ⟨S,R⟩ ⟨2,a,fQ⟩).1.rows:=by
 obtain⟨p,q⟩:=h.sr.at_ a;rw[km (S:=S) c h.sr q];by_cases b:kJ R a p=true
 .rw[if_pos b];have e:=lS R p;exact⟨h.sr.sub e,λr f=>h.ok r (e.subset f),mXT e.length_le h.le⟩
 rw[if_neg b];exact h
theorem TW.set{T:List cW}(h:TW T){t c:cW}(f:T[i]? =some t)(S:c.S=t.S)(r:SO c.rows):TW (T.set i c):=by
 have m:=(mQB.1 f).1;refine⟨?_,λx hx=>?_,by rw[mXv];exact h.le⟩
 .rw[mQZ];have e:∀j (g:j<(T.set i c).length),(T.set i c)[j].S=(T[j]'(by simpa using g)).S:=λj g=>by
   rw[mJe];split
   .rename_i e;subst e;rw[S,<-(mQB.1 f).2]
   rfl
  intro a b k l G;rw[e a k,e b l];exact mQZ.1 h.jC a b _ _ G
 rcases mXz hx with d|d
 .exact h.ok x d
 have:=h.ok t (mQz f);rw[d,S];exact⟨this.1,this.2.1,r,this.2.2.2⟩
structure FV(T:List cW)(x:dV):Prop where
 row:fK x.row
 op:x.op=1\/x.op=2
 at_:∃t∈T,t.S.name=x.table
theorem FV.map{T a:List cW}(h:FV T x)(e:a.map (·.S)=T.map (·.S)):FV a x:=by
 refine⟨h.row,h.op,?_⟩;obtain⟨t,c,n⟩:=h.at_;have:t.S∈a.map (·.S):=by rw[e];exact mKq c
 obtain⟨d,P,b⟩:=mQW.1 this;exact⟨d,P,by rw[b];exact n⟩
theorem Of{T:List cW}(h:TW T)(hx:FV T x){t:cW}(b:T[i]? =some t)(n:t.S.name=x.table):
 gC T x=T.set i (if x.op=2 then(bK t x.row).1 else(bH t (xi x.row 0)).1)/\TW (gC T x):=by
 obtain⟨f,g⟩:=xm h.jC b;rw[n]at f g;obtain⟨j,c,d,-⟩:=h.ok t (mQz b);have e:gC T x=T.set i (if x.op=2 then(bK t x.row).1 else(bH t (xi x.row 0)).1):=by
  unfold gC;rw[f,g,b];simp only[if_true];by_cases o:x.op=2
  .rw[if_pos (mQu o),if_pos o]
  rw[if_neg (by simpa using o),if_neg o,if_pos (by
   obtain⟨a,v,r,-⟩:=hx.row;rw[c,r];rfl),c]
 refine⟨e,?_⟩;rw[e];obtain⟨S,R⟩:=t;by_cases o:x.op=2
 .rw[if_pos o];exact h.set b (lf _ _) (UT j c d (.inl hx.row))
 rw[if_neg o];obtain⟨a,v,r,-⟩:=hx.row;rw[r];exact h.set b (lE _ _) (Oi c d a)
theorem aXh{T:List cW}(h:TW T)(hx:FV T x):TW (gC T x):=by obtain⟨t,b,n⟩:=hx.at_;obtain⟨i,a⟩:=mXh b;exact(Of h hx a n).2
theorem BA{T:List cW}(h:TW T):∀ {l:List dV},(∀x∈l,FV T x)->TW (eV T l)
 | [],_=>h
 |x::r,a=>aXh (BA h (λy b=>a y (mXm _ b))) ((a x (by simp)).map (BB T r))
structure jJR where
 w:dQz
 lb:Option Addr
 ln:Nat
 lc:Nat
structure SI(d:DB):Prop where
 tw:TW d.az
 jC:d.aq.Pairwise (λa b=>a.s<b.s)
 pH:∀w∈d.aq,0<=w.s/\w.s<8
 log:∀w∈d.aq,(∀x∈w.log,FV d.az x)/\w.log.length<=60
 holds:d.holds.length<=2^17
 waits:d.waits.length<=2^17
theorem uq{l:List fJ}(h:l.Pairwise (λa b=>a.s<b.s)){w:fJ}(e:l[i]? =some w):∀(j:Nat) (y:fJ),l[j]? =some y->y.s=w.s->j=i:=by
 intro j y f g;have d:=mQB.1 f;have C:=mQB.1 e;rcases mZN j i with c|c|c
 .have:=mQZ.1 h j i d.1 C.1 c;rw[d.2,C.2]at this;omega
 .exact c
 have:=mQZ.1 h i j C.1 d.1 c;rw[d.2,C.2]at this;omega
end Go.S
