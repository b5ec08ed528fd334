import Derived.Test.YthnbpiejemlbeaaGreatTab
import Derived.Test.YthnbpiejemlbeaaGreatRd
set_option linter.all false
set_option maxRecDepth 100000
namespace Go.S
open Go.Sx Go.Proofs
variable {a1 a2:Addr}{e:Int}{c:List Value}{cap o:Nat}{b:Option Addr}{a:Value}{h h':ad}{Q:ad->Prop}
abbrev Ct(f:FuncId)(args:List Value)(h:ad)(R:Value->ad->Prop):Prop:=Gt (λ_=>Tryz.prog) f args h R
abbrev fXj(f:FuncId)(args:List Value)(h:ad)(R:Value->ad->Prop):Prop:=UH (λ_=>Tryz.prog) f args h R
structure jd where
 k:Int
 n:Int
 s:ByteArray
def bA:Sh jd where
 n:=3
 R _ cs v:=cs=[.int .i64 v.k,.int .i64 v.n,.string v.s]
 len:=by rintro h cs x rfl;rfl
 one:=by rintro h cs x rfl;rfl
 tys:=[]
 mono:=λ_ q=>q
structure jF where
 name:ByteArray
 kind:Int
 null:Bool
def bH:Sh jF where
 n:=3
 R _ cs v:=cs=[.string v.name,.int .i64 v.kind,.bool v.null]
 len:=by rintro h cs x rfl;rfl
 one:=by rintro h cs x rfl;rfl
 tys:=[]
 mono:=λ_ q=>q
structure mD where
 name:ByteArray
 at_:Int
def df:Sh mD where
 n:=2
 R _ cs v:=cs=[.string v.name,.int .i64 v.at_]
 len:=by rintro h cs x rfl;rfl
 one:=by rintro h cs x rfl;rfl
 tys:=[]
 mono:=λ_ q=>q
structure bU where
 s:Int
 table:ByteArray
 x:Bool
def bu:Sh bU where
 n:=3
 R _ cs v:=cs=[.int .i64 v.s,.string v.table,.bool v.x]
 len:=by rintro h cs x rfl;rfl
 one:=by rintro h cs x rfl;rfl
 tys:=[]
 mono:=λ_ q=>q
abbrev Row:=List jd
abbrev bF:Sh Row:=vA 45 bA
structure tE where
 name:ByteArray
 bB:List jF
 key:Int
 only:Bool
structure ca where
 S:tE
 rows:List Row
def bN:Sh ca where
 n:=5
 R h cs t:=∃b1 n1 c1 b2 n2 c2,cs=[.string t.S.name,.slice b1 n1 c1,.int .i64 t.S.key,.bool t.S.only,.slice b2 n2 c2]/\Sl 202 bH h (.slice b1 n1 c1) t.S.bB/\Sl 46 bF h (.slice b2 n2 c2) t.rows
 len:=by rintro h cs x ⟨_,_,_,_,_,_,rfl,-⟩;rfl
 one:=by rintro h cs x ⟨_,_,_,_,_,_,rfl,-⟩;rfl
 tys:=[202,46,45]
 mono:=by rintro h h' cs x hl ⟨b1,n1,c1,b2,n2,c2,rfl,q1,q2⟩;exact⟨b1,n1,c1,b2,n2,c2,rfl,q1.mono (hl.sub),q2.mono (hl.sub)⟩
structure cV where
 table:ByteArray
 op:Int
 row:Row
def bz:Sh cV where
 n:=3
 R h cs t:=∃b n c,cs=[.string t.table,.int .i64 t.op,.slice b n c]/\Sl 45 bA h (.slice b n c) t.row
 len:=by rintro h cs x ⟨_,_,_,rfl,-⟩;rfl
 one:=by rintro h cs x ⟨_,_,_,rfl,-⟩;rfl
 tys:=[45]
 mono:=by rintro h h' cs x hl ⟨b,n,c,rfl,q⟩;exact⟨b,n,c,rfl,q.mono (hl.sub)⟩
structure eY where
 s:Int
 log:List cV
 marks:List mD
def bV:Sh (eY×Bool)where
 n:=3
 R h cs t:=∃b1 n1 c1 b2 n2 c2,cs=[.int .i64 t.1.s,.slice b1 n1 c1,.slice b2 n2 c2]/\Sl 161 bz h (.slice b1 n1 c1) t.1.log/\Sl 183 df h (.slice b2 n2 c2) t.1.marks/\(t.2=true->c1=n1)
 len:=by rintro h cs x ⟨_,_,_,_,_,_,rfl,-⟩;rfl
 one:=by rintro h cs x ⟨_,_,_,_,_,_,rfl,-⟩;rfl
 tys:=[161,45,183]
 mono:=by rintro h h' cs x hl ⟨b1,n1,c1,b2,n2,c2,rfl,q1,q2,q3⟩;exact⟨b1,n1,c1,b2,n2,c2,rfl,q1.mono (hl.sub),q2.mono (hl.sub),q3⟩
structure DB where
 ao:List ca
 ai:List eY
 holds:List bU
 waits:List bU
structure fE(h:ad)(v:Value)(d:DB):Prop where
 out:∃b1 n1 c1 b2 n2 c2 b3 n3 c3 b4 n4 c4 ws,v=.agg #[.slice b1 n1 c1,.slice b2 n2 c2,.slice b3 n3 c3,.slice b4 n4 c4]/\
  Sl 61 bN h (.slice b1 n1 c1) d.ao/\Sl 79 bV h (.slice b2 n2 c2) ws/\Sl 253 bu h (.slice b3 n3 c3) d.holds/\Sl 253 bu h (.slice b4 n4 c4) d.waits/\ws.map (·.1)=d.ai
theorem Bc{xs:List bU}{len:Nat}(q:Sl 253 bu h (.slice b len cap) xs):
 Ct 102 [.slice b len cap] h (λv h'=>Le h h'/\∃d p,v=.slice d len p/\Sl 253 bu h' v xs/\∀E o s,d=some ⟨E,o,s⟩->h E=none):=by
 refine cg bQa Tryz.func102 λA j=>?_;cbv;refine ba (λa=>?_) (λa=>?_)
 .rw[j.Cc]at a;cbv;have k:b=none:=by cases b<;>simp at a |-
  subst k;have hl:len=0:=by
   rcases jKj len with e|e
   .exact e
   have:=q.bp e;cases this
  have:=q.len;have hx:xs=[]:=kh (by omega);subst hx hl;exact⟨Le.refl _,none,0,rfl,Sl.nil,λ_ _ _ e=>(by cases e)⟩
 cbv;intro u i m w;have l:Le h i:=by rw[w];exact Le.set m
 cbv;refine dt (q.mono (l.t _)) (by simp[bu]) rfl (by decide) (λn=>?_) (λx c t e1 r f g=>?_)
 .cbv;have:=q.len;have hx:xs=[]:=kh (by omega);subst hx n;exact⟨l,_,_,rfl,Sl.nil,λ_ _ _ e=>(by cases e;exact m)⟩
 cbv;exact⟨l.trans f,_,_,rfl,g.sl q.len,λ_ _ _ e=>(by cases e;exact l.none e1)⟩
theorem MB{xs:List jF}{len:Nat}(q:Sl 202 bH h (.slice b len cap) xs):
 Ct 218 [.slice b len cap] h (λv h'=>Le h h'/\∃d p,v=.slice d len p/\Sl 202 bH h' v xs/\∀E o s,d=some ⟨E,o,s⟩->h E=none):=by
 refine cg aKL Tryz.func218 λA j=>?_;cbv;refine ba (λa=>?_) (λa=>?_)
 .rw[j.Cc]at a;cbv;have k:b=none:=by cases b<;>simp at a |-
  subst k;have hl:len=0:=by
   rcases jKj len with e|e
   .exact e
   have:=q.bp e;cases this
  have:=q.len;have hx:xs=[]:=kh (by omega);subst hx hl;exact⟨Le.refl _,none,0,rfl,Sl.nil,λ_ _ _ e=>(by cases e)⟩
 cbv;intro u i m w;have l:Le h i:=by rw[w];exact Le.set m
 cbv;refine dt (q.mono (l.t _)) (by simp[bH]) rfl (by decide) (λn=>?_) (λx c t e1 r f g=>?_)
 .cbv;have:=q.len;have hx:xs=[]:=kh (by omega);subst hx n;exact⟨l,_,_,rfl,Sl.nil,λ_ _ _ e=>(by cases e;exact m)⟩
 cbv;exact⟨l.trans f,_,_,rfl,g.sl q.len,λ_ _ _ e=>(by cases e;exact l.none e1)⟩
theorem Gj{xs:List jd}{len:Nat}(q:Sl 45 bA h (.slice b len cap) xs):
 Ct 114 [.slice b len cap] h (λv h'=>Le h h'/\∃d p,v=.slice d len p/\Sl 45 bA h' v xs/\∀E o s,d=some ⟨E,o,s⟩->h E=none):=by
 refine cg aKZ Tryz.func114 λA j=>?_;cbv;refine ba (λa=>?_) (λa=>?_)
 .rw[j.Cc]at a;cbv;have k:b=none:=by cases b<;>simp at a |-
  subst k;have hl:len=0:=by
   rcases jKj len with e|e
   .exact e
   have:=q.bp e;cases this
  have:=q.len;have hx:xs=[]:=kh (by omega);subst hx hl;exact⟨Le.refl _,none,0,rfl,Sl.nil,λ_ _ _ e=>(by cases e)⟩
 cbv;intro u i m w;have l:Le h i:=by rw[w];exact Le.set m
 cbv;refine dt (q.mono (l.t _)) (by simp[bA]) rfl (by decide) (λn=>?_) (λx c t e1 r f g=>?_)
 .cbv;have:=q.len;have hx:xs=[]:=kh (by omega);subst hx n;exact⟨l,_,_,rfl,Sl.nil,λ_ _ _ e=>(by cases e;exact m)⟩
 cbv;exact⟨l.trans f,_,_,rfl,g.sl q.len,λ_ _ _ e=>(by cases e;exact l.none e1)⟩
theorem Zs{xs:List mD}{len:Nat}(q:Sl 183 df h (.slice b len cap) xs):
 Ct 220 [.slice b len cap] h (λv h'=>Le h h'/\∃d p,v=.slice d len p/\Sl 183 df h' v xs/\∀E o s,d=some ⟨E,o,s⟩->h E=none):=by
 refine cg Uz Tryz.func220 λA j=>?_;cbv;refine ba (λa=>?_) (λa=>?_)
 .rw[j.Cc]at a;cbv;have k:b=none:=by cases b<;>simp at a |-
  subst k;have hl:len=0:=by
   rcases jKj len with e|e
   .exact e
   have:=q.bp e;cases this
  have:=q.len;have hx:xs=[]:=kh (by omega);subst hx hl;exact⟨Le.refl _,none,0,rfl,Sl.nil,λ_ _ _ e=>(by cases e)⟩
 cbv;intro u i m w;have l:Le h i:=by rw[w];exact Le.set m
 cbv;refine dt (q.mono (l.t _)) (by simp[df]) rfl (by decide) (λn=>?_) (λx c t e1 r f g=>?_)
 .cbv;have:=q.len;have hx:xs=[]:=kh (by omega);subst hx n;exact⟨l,_,_,rfl,Sl.nil,λ_ _ _ e=>(by cases e;exact m)⟩
 cbv;exact⟨l.trans f,_,_,rfl,g.sl q.len,λ_ _ _ e=>(by cases e;exact l.none e1)⟩
theorem Xg{r:Row}{len:Nat}(q:Sl 45 bA h (.slice b len cap) r):
 Ct 46 [.slice b len cap] h (λv h'=>Le h h'/\∃a i,v=.slice a len i/\Sl 45 bA h' v r):=by
 refine cg hKf Tryz.func46 λA d=>?_;cbv;refine(Gj q).mono (λv h'=>?_);rintro⟨l,a,i,rfl,c,-⟩;cbv;exact⟨l,_,_,rfl,c⟩
theorem aKc{xs:List Row}{len:Nat}(q:Sl 46 bF h (.slice b len cap) xs):
 Ct 219 [.slice b len cap,.func (.func 46) #[] #[]] h (λv h'=>Le h h'/\∃c,h c=none/\v=.slice (zsA c) len len/\cZ 46 bF h' c len xs):=by
 have l:=q.len;obtain⟨W,Z⟩:=q.bound;refine cg eXQ Tryz.func219 λA y=>?_;cbv;refine sJ (s:=bF) rfl (by omega) (by decide) (λc t C e o=>?_);cbv;refine aX.go (G:=Int) (λz=>[(13,.v (.int .i64 z))]) (λ_=>[]) (λn z h'=>∃i:Nat,aZ z i/\n=len-i/\i<=len/\Le h h'/\cZ 46 bF h' c len (xs.take i)) len 0 (by constructor<;>cbv) ⟨0,⟨rfl⟩,by omega,by omega,e,o⟩ ?_
 intro n z h' I;cbv;obtain⟨i,a,E,B,p,R⟩:=I;refine ba (λd=>?_) (λd=>?_)
 .have U:=a.lt d;clear d;cbv;obtain⟨x,hx⟩:=cB xs i;refine⟨⟨q.bp,a.ix U⟩,?_⟩;cbv;refine(q.mono (p.t _)).load hx a.eq (λcs r=>?_);obtain⟨v,rfl,f⟩:=r;obtain⟨g,K,m,rfl⟩:=f.form;cbv;refine(Xg f).mono (λM u hR=>?_);obtain⟨F,j,J,rfl,N⟩:=hR;cbv;refine⟨⟨rfl,a.ix U⟩,?_⟩;cbv;refine(R.mono (F.t _)).store (by decide) (i:=i) (by simp;omega) (by omega) (by omega) a.eq rfl (x:=x) ⟨_,rfl,N⟩ (λw k H D=>?_);cbv;refine⟨len-(i+1),_,by omega,by constructor<;>cbv,i+1,a.succ (A:=A),rfl,by omega,?_,?_⟩
  .exact(p.trans F).aV (by simpa using C) k
  rw[if_neg (by simp;omega)]at D;rw[qM,hx];exact D
 have L:=a.ge d;cbv;have:i=len:=by omega
 subst this;refine⟨p,c,C,rfl,?_⟩;rw[l,Bk]at R;rw[l];exact R
theorem Xh{t:ca}{b d e f:Value}(q:bN.R h [a,b,d,e,f] t):
 Ct 99 [.agg #[a,b,d,e,f]] h (λv h'=>Le h h'/\∃g i j k m,v=.agg #[g,i,j,k,m]/\bN.R h' [g,i,j,k,m] t):=by
 obtain⟨u,G,D,w,H,E,o,r,n⟩:=q;cases o;refine cg hJp Tryz.func99 λA z=>?_;cbv;refine(MB r).mono (λv x hR=>?_);obtain⟨l,s,B,rfl,c,-⟩:=hR;cbv;refine(aKc (n.mono (l.t _))).mono (λv y hR=>?_);obtain⟨F,I,C,rfl,p⟩:=hR;cbv;exact⟨l.trans F,_,_,_,_,_,rfl,_,_,_,_,_,_,rfl,c.mono (F.t _),p.sl n.len⟩
theorem Ra{xs:List ca}{len:Nat}(q:Sl 61 bN h (.slice b len cap) xs):
 Ct 98 [.slice b len cap,.func (.func 99) #[] #[]] h (λv h'=>Le h h'/\∃c,h c=none/\v=.slice (zsA c) len len/\cZ 61 bN h' c len xs):=by
 have l:=q.len;obtain⟨X,Z⟩:=q.bound;refine cg hJq Tryz.func98 λA S=>?_;cbv;refine sJ (s:=bN) rfl (by omega) (by decide) (λc O C g B=>?_);cbv;refine aX.go (G:=Int) (λz=>[(13,.v (.int .i64 z))]) (λ_=>[]) (λn z h'=>∃i:Nat,aZ z i/\n=len-i/\i<=len/\Le h h'/\cZ 61 bN h' c len (xs.take i)) len 0 (by constructor<;>cbv) ⟨0,⟨rfl⟩,by omega,by omega,g,B⟩ ?_
 intro n z h' I;cbv;obtain⟨i,a,V,T,p,R⟩:=I;refine ba (λd=>?_) (λd=>?_)
 .have U:=a.lt d;clear d;cbv;obtain⟨x,hx⟩:=cB xs i;refine⟨⟨q.bp,a.ix U⟩,?_⟩;cbv;refine(q.mono (p.t _)).load hx a.eq (λcs u=>?_);obtain⟨e,m,k,f,o,j,rfl,r,t⟩:=u;have E:bN.R h' _ x:=⟨e,m,k,f,o,j,rfl,r,t⟩;cbv;refine(Xh E).mono (λv2 P hR=>?_);obtain⟨F,H,J,K,L,M,rfl,N⟩:=hR;obtain⟨e,m,k,f,o,j,w,r,t⟩:=N;cases w;cbv;refine⟨⟨rfl,a.ix U⟩,?_⟩;cbv;refine(R.mono (F.t _)).store (by decide) (i:=i) (by simp;omega) (by omega) (by omega) a.eq rfl (x:=x) ⟨e,m,k,f,o,j,rfl,r,t⟩ (λQ y W D=>?_);cbv;refine⟨len-(i+1),_,by omega,by constructor<;>cbv,i+1,a.succ (A:=A),rfl,by omega,?_,?_⟩
  .exact(p.trans F).aV (by simpa using C) y
  rw[if_neg (by simp;omega)]at D;rw[qM,hx];exact D
 have Y:=a.ge d;cbv;have:i=len:=by omega
 subst this;refine⟨p,c,C,rfl,?_⟩;rw[l,Bk]at R;rw[l];exact R
theorem dQB{t:cV}{b d:Value}(q:bz.R h [a,b,d] t):
 Ct 122 [.agg #[a,b,d]] h (λv h'=>Le h h'/\∃e f g,v=.agg #[e,f,g]/\bz.R h' [e,f,g] t):=by
 obtain⟨m,s,r,i,j⟩:=q;cases i;refine cg eJu Tryz.func122 λA o=>?_;cbv;refine(Xg j).mono (λv n hR=>?_);obtain⟨l,k,p,rfl,c⟩:=hR;cbv;exact⟨l,_,_,_,rfl,_,_,_,rfl,c⟩
theorem Pk{xs:List cV}{len:Nat}(q:Sl 161 bz h (.slice b len cap) xs):
 Ct 121 [.slice b len cap,.func (.func 122) #[] #[]] h (λv h'=>Le h h'/\∃c,h c=none/\v=.slice (zsA c) len len/\cZ 161 bz h' c len xs):=by
 have l:=q.len;obtain⟨W,Z⟩:=q.bound;refine cg eJv Tryz.func121 λA K=>?_;cbv;refine sJ (s:=bz) rfl (by omega) (by decide) (λc E C f t=>?_);cbv;refine aX.go (G:=Int) (λz=>[(13,.v (.int .i64 z))]) (λ_=>[]) (λn z h'=>∃i:Nat,aZ z i/\n=len-i/\i<=len/\Le h h'/\cZ 161 bz h' c len (xs.take i)) len 0 (by constructor<;>cbv) ⟨0,⟨rfl⟩,by omega,by omega,f,t⟩ ?_
 intro n z h' I;cbv;obtain⟨i,a,M,L,p,R⟩:=I;refine ba (λd=>?_) (λd=>?_)
 .have U:=a.lt d;clear d;cbv;obtain⟨x,hx⟩:=cB xs i;refine⟨⟨q.bp,a.ix U⟩,?_⟩;cbv;refine(q.mono (p.t _)).load hx a.eq (λcs r=>?_);obtain⟨e,g,k,rfl,j⟩:=r;have u:bz.R h' _ x:=⟨e,g,k,rfl,j⟩;cbv;refine(dQB u).mono (λQ H hR=>?_);obtain⟨F,w,y,B,rfl,N⟩:=hR;obtain⟨e,g,k,m,j⟩:=N;cases m;cbv;refine⟨⟨rfl,a.ix U⟩,?_⟩;cbv;refine(R.mono (F.t _)).store (by decide) (i:=i) (by simp;omega) (by omega) (by omega) a.eq rfl (x:=x) ⟨e,g,k,rfl,j⟩ (λJ o O D=>?_);cbv;refine⟨len-(i+1),_,by omega,by constructor<;>cbv,i+1,a.succ (A:=A),rfl,by omega,?_,?_⟩
  .exact(p.trans F).aV (by simpa using C) o
  rw[if_neg (by simp;omega)]at D;rw[qM,hx];exact D
 have P:=a.ge d;cbv;have:i=len:=by omega
 subst this;refine⟨p,c,C,rfl,?_⟩;rw[l,Bk]at R;rw[l];exact R
theorem bJF{t:eY×Bool}{c b:Value}(q:bV.R h [c,a,b] t):
 Ct 101 [.agg #[c,a,b]] h (λv h'=>Le h h'/\∃d e f,v=.agg #[d,e,f]/\bV.R h' [d,e,f] (t.1,true)):=by
 obtain⟨n,z,x,p,B,y,j,g,k,-⟩:=q;cases j;refine cg bQb Tryz.func101 λA u=>?_;cbv;refine(Pk g).mono (λv r hR=>?_);obtain⟨l,D,C,rfl,o⟩:=hR;cbv;refine(Zs (k.mono (l.t _))).mono (λv s hR=>?_);obtain⟨F,m,w,rfl,i,-⟩:=hR;cbv;exact⟨l.trans F,_,_,_,rfl,_,_,_,_,_,_,rfl,(o.sl g.len).mono (F.t _),i,λ_=>rfl⟩
theorem aKd{xs:List (eY×Bool)}{len:Nat}(q:Sl 79 bV h (.slice b len cap) xs):
 Ct 100 [.slice b len cap,.func (.func 101) #[] #[]] h (λv h'=>Le h h'/\∃c,h c=none/\v=.slice (zsA c) len len/\cZ 79 bV h' c len (xs.map λp=>(p.1,true))):=by
 have l:=q.len;obtain⟨X,Z⟩:=q.bound;refine cg bQc Tryz.func100 λA S=>?_;cbv;refine sJ (s:=bV) rfl (by omega) (by decide) (λc O C g H=>?_);cbv;refine aX.go (G:=Int) (λz=>[(13,.v (.int .i64 z))]) (λ_=>[]) (λn z h'=>∃i:Nat,aZ z i/\n=len-i/\i<=len/\Le h h'/\cZ 79 bV h' c len ((xs.take i).map λp=>(p.1,true))) len 0 (by constructor<;>cbv) ⟨0,⟨rfl⟩,by omega,by omega,g,H⟩ ?_
 intro n z h' I;cbv;obtain⟨i,a,V,T,y,R⟩:=I;refine ba (λd=>?_) (λd=>?_)
 .have U:=a.lt d;clear d;cbv;obtain⟨x,hx⟩:=cB xs i;refine⟨⟨q.bp,a.ix U⟩,?_⟩;cbv;refine(q.mono (y.t _)).load hx a.eq (λcs w=>?_);obtain⟨e,m,k,f,o,j,rfl,r,t,u⟩:=w;have J:bV.R h' _ x:=⟨e,m,k,f,o,j,rfl,r,t,u⟩;cbv;refine(bJF J).mono (λv2 P hR=>?_);obtain⟨F,K,L,M,rfl,N⟩:=hR;obtain⟨e,m,k,f,o,j,B,r,t,u⟩:=N;cases B;cbv;refine⟨⟨rfl,a.ix U⟩,?_⟩;cbv;refine(R.mono (F.t _)).store (by decide) (i:=i) (by simp;omega) (by omega) (by omega) a.eq rfl (x:=(x.1,true)) ⟨e,m,k,f,o,j,rfl,r,t,u⟩ (λQ E W D=>?_);cbv;refine⟨len-(i+1),_,by omega,by constructor<;>cbv,i+1,a.succ (A:=A),rfl,by omega,?_,?_⟩
  .exact(y.trans F).aV (by simpa using C) E
  rw[if_neg (by simp;omega)]at D;rw[qM,hx];simpa using D
 have Y:=a.ge d;cbv;have:i=len:=by omega
 subst this;refine⟨y,c,C,rfl,?_⟩;rw[l,Bk]at R;rw[l];exact R
theorem cXL:jr Tryz.prog 362 Tryz.f362:=⟨Tryz.func362,by kernel_rfl,by kernel_rfl,by kernel_rfl⟩
def dA(a b:ByteArray):Int:=Lib.compareBytes a.data.toList b.data.toList
structure PF(l:List Int)(z:Int)(t:Bool):Prop where
 out:∃i,aZ z i/\i=rV l 0 l.length/\t=decide (i<l.length/\l.getD i 0=0)
theorem cXT(a b:ByteArray)(h:ad):Ct 323 [.string a,.string b] h (λv h'=>Le h h'/\∃z,v=.int .i64 z/\z=dA a b):=by refine cg eQb Tryz.func323 λA d=>?_;cbv;refine aJR cXL (by kernel_rfl) ?_;generalize c:Lib.compareBytes a.data.toList b.data.toList=z;cbv;exact⟨Le.refl _,z,rfl,c.symm⟩
theorem Zr(a b:ByteArray)(h:ad):Ct 237 [.string a,.string b] h (λv h'=>Le h h'/\∃z,v=.int .i64 z/\z=dA a b):=by refine cg eXA Tryz.func237 λA e=>?_;cbv;refine(cXT a b h).mono (λv d hR=>?_);obtain⟨l,z,rfl,c⟩:=hR;cbv;exact⟨l,z,rfl,c⟩
theorem bXV(a b:ByteArray)(h:ad)(c d e f:Value):Ct 236 [.agg #[.string a,c,d,e,f],.string b] h (λv h'=>Le h h'/\∃z,v=.int .i64 z/\z=dA a b):=by refine cg eXB Tryz.func236 λA j=>?_;cbv;refine(Zr a b h).mono (λv i hR=>?_);obtain⟨l,z,rfl,g⟩:=hR;cbv;exact⟨l,z,rfl,g⟩
theorem gKx{xs:List ca}{len:Nat}(q:Sl 61 bN h (.slice b len cap) xs)(a:ByteArray):
 Ct 235 [.slice b len cap,.string a,.func (.func 236) #[] #[]] h (λv h'=>Le h h'/\∃(z:Int) (t:Bool),v=.tuple #[.int .i64 z,.bool t]/\PF (xs.map (λx=>dA x.S.name a)) z t):=by
 have o:=q.len;obtain⟨W,Z⟩:=q.bound;have r:(xs.map (λx=>dA x.S.name a)).length=len:=by simp[o]
 generalize hl:xs.map (λx=>dA x.S.name a)=l at r;have O:∀(i:Nat) x,xs[i]? =some x->l[i]? =some ((λx=>dA x.S.name a) x):=λi x hx=>by rw[<-hl];simp[hx]
 refine cg eXC Tryz.func235 λA d=>?_;cbv;refine aX.go (G:=Int×Int) (λg=>[(9,.v (.int .i64 g.1)),(10,.v (.int .i64 g.2))]) (λ_=>[])
  (λn g h'=>∃i j:Nat,aZ g.1 i/\aZ g.2 j/\n=j-i/\i<=j/\j<=len/\Le h h'/\rV l 0 len=rV l i j) len (0,A .nat len) ⟨?_,?_,?_⟩ ⟨0,len,⟨rfl⟩,⟨by rw[d.nat];rfl⟩,by omega,by omega,by omega,Le.refl _,rfl⟩ ?_
 .cbv
 .cbv
 .cbv
 intro n g h' J;cbv;obtain⟨i,j,c,p,S,X,R,e,D⟩:=J;refine ba (λf=>?_) (λf=>?_)
 .rw[c.yY (A:=A) p,NB]at f;cbv;refine⟨by decide,?_⟩;cbv;have s:=c.fKM (A:=A) p (by omega) (by omega);obtain⟨x,hx⟩:=aJ (xs:=xs) (i:=(i+j) / 2) (by omega);refine⟨⟨q.bp,s.ix (by omega)⟩,?_⟩;cbv;refine(q.mono (e.t _)).load hx s.eq (λcs u=>?_);obtain⟨E,M,K,H,N,L,rfl,P,Q⟩:=u;cbv;refine(bXV x.S.name a _ _ _ _ _).mono (λv I hR=>?_);obtain⟨F,z,rfl,C⟩:=hR;cbv;have y:l.getD ((i+j) / 2) 0=z:=by rw[yz,O _ _ hx,C];rfl
  have m:=D;rw[rV.eq_1 l i j,if_pos f,y]at m;refine ba (λk=>?_) (λk=>?_)
  .rw[d.aN]at k;have B:z<0:=lA k;rw[if_pos B]at m;clear k B;cbv;refine⟨j-((i+j) / 2+1),(_,g.2),by omega,by constructor<;>cbv,(i+j) / 2+1,j,s.succ (A:=A),p,rfl,by omega,R,e.trans F,m⟩
  rw[d.aN]at k;have B:¬z<0:=kz k;rw[if_neg B]at m;clear k B;cbv;refine⟨(i+j) / 2-i,(g.1,A .conv .i64 (A .aT .shr .u64 (A .conv .u64 (A .aT .add .i64 g.1 g.2)) 1)),by omega,by constructor<;>cbv,i,(i+j) / 2,c,s,rfl,by omega,by omega,e.trans F,m⟩
 rw[c.yY (A:=A) p,decide_eq_false_iff_not]at f;cbv;have m:=D;rw[rV.eq_1 l i j,if_neg f]at m;have Y:=c.yY (A:=A) (w:=A .nat len) (j:=len) ⟨by rw[d.nat];rfl⟩;refine ba (λk=>?_) (λk=>?_)
 .rw[k];rw[Y,NB]at k;cbv;obtain⟨x,hx⟩:=cB xs i;refine⟨⟨q.bp,c.ix (by omega)⟩,?_⟩;cbv;refine(q.mono (e.t _)).load hx c.eq (λcs u=>?_);obtain⟨E,M,K,H,N,L,rfl,P,Q⟩:=u;cbv;refine(bXV x.S.name a _ _ _ _ _).mono (λv I hR=>?_);obtain⟨F,z,rfl,C⟩:=hR;cbv;refine⟨e.trans F,_,_,rfl,⟨i,c,?_,?_⟩⟩
  .rw[r];exact m.symm
  rw[d.aN];have y:l.getD i 0=z:=by rw[yz,O _ _ hx,C];rfl
  rw[y,r];simp[aN,k];rfl
 rw[k];rw[Y,decide_eq_false_iff_not]at k;cbv;refine⟨e,_,_,rfl,⟨i,c,?_,?_⟩⟩
 .rw[r];exact m.symm
 rw[r];simp[k]
theorem Xi{d:DB}{v:Value}(q:fE h v d):
 Ct 40 [v] h (λD h'=>Le h h'/\∃t b n a g m j i o k s,h t=none/\h b=none/\
  D=.agg #[.slice (zsA t) n n,.slice (zsA b) a a,.slice g m j,.slice i o k]/\
  n=d.ao.length/\cZ 61 bN h' t n d.ao/\a=s.length/\cZ 79 bV h' b a s/\Sl 253 bu h' (.slice g m j) d.holds/\Sl 253 bu h' (.slice i o k) d.waits/\s=d.ai.map λw=>(w,true)):=by
 obtain⟨F,n,H,G,a,I,g,m,j,i,o,k,s,rfl,p,r,z,B,C⟩:=q.out;refine cg fXe Tryz.func40 λA N=>?_;cbv;refine(Ra p).mono (λv J hR=>?_);obtain⟨l,t,u,rfl,o1⟩:=hR;cbv;refine(aKd (r.mono (l.t _))).mono (λv K hR=>?_);obtain⟨c,b,R,rfl,o2⟩:=hR;cbv;refine(Bc (z.mono ((l.trans c).t _))).mono (λv L hR=>?_);obtain⟨e,P,O,rfl,x,-⟩:=hR;cbv;refine(Bc (B.mono (((l.trans c).trans e).t _))).mono (λv M hR=>?_);obtain⟨f,E,V,rfl,y,-⟩:=hR;cbv;refine⟨((l.trans c).trans e).trans f,t,b,n,a,_,_,_,_,_,_,_,u,l.none R,rfl,p.len,o1.mono (((c.trans e).trans f).t _),?_,o2.mono ((e.trans f).t _),x.mono (f.t _),y,?_⟩
 .rw[vi];exact r.len
 rw[<-C,jKq];rfl
structure jV(h:ad)(c tb wb ct cw:Nat)(T:List ca)(W:List (eY×Bool))(H Wt:List bU)(e:Int):Prop where
 out:∃n1 n2 b3 n3 c3 b4 n4 c4 o,h c=some (.cells #[.slice (zsA tb) n1 ct,.slice (zsA wb) n2 cw,.slice b3 n3 c3,.slice b4 n4 c4,.int .u32 o,.int .i32 0,.int .u32 0,.int .i64 e] 148 (0,0))/\
  ((o=0/\e=0)\/(o=1/\e≠0))/\
  n1=T.length/\cZ 61 bN h tb ct T/\n2=W.length/\cZ 79 bV h wb cw W/\Sl 253 bu h (.slice b3 n3 c3) H/\Sl 253 bu h (.slice b4 n4 c4) Wt
theorem jV.mono{c b d a w:Nat}{T:List ca}{W:List (eY×Bool)}{H t:List bU}(q:jV h c b d a w T W H t e)(hl:Le h h'):jV h' c b d a w T W H t e:=by obtain⟨v,x,f,y,i,g,z,j,o,k,l,m,n,p,r,s,u⟩:=q.out;exact⟨v,x,f,y,i,g,z,j,o,hl _ _ k,l,m,n.mono (hl.t _),p,r.mono (hl.t _),s.mono (hl.t _),u.mono (hl.t _)⟩
theorem Ea{d:DB}{v:Value}(q:fE h v d):
 Ct 38 [v] h (λP h'=>Le h h'/\∃c t b p r W,P=.zP c/\h c=none/\h t=none/\h b=none/\c≠t/\c≠b/\W=(d.ai.map λw=>(w,true))/\p=d.ao.length/\r=W.length/\jV h' c t b p r d.ao W d.holds d.waits 0):=by
 have O:=q;obtain⟨Q,g,T,S,i,U,j,D,m,k,E,o,X,rfl,-⟩:=O.out;refine cg fXf Tryz.func38 λA V=>?_;cbv;refine(Xi q).mono (λv J hR=>?_);obtain⟨C,t,b,g,i,j,D,m,k,E,o,W,N,R,rfl,s,u,x,y,F,G,H⟩:=hR;cbv;intro n z f B;have l:Le J z:=by rw[B];exact Le.set f
 have L:n≠t:=λe=>by
  obtain⟨c,a,-⟩:=u.out;rw[<-e,f]at a;cases a
 have M:n≠b:=λe=>by
  obtain⟨c,a,-⟩:=y.out;rw[<-e,f]at a;cases a
 have I:=(congrFun B n).trans ae;have K:jV z n t b g i d.ao W d.holds d.waits 0:=
  ⟨g,i,j,D,m,k,E,o,0,I,.inl ⟨rfl,rfl⟩,s,u.mono (l.t _),x,y.mono (l.t _),F.mono (l.t _),G.mono (l.t _)⟩
 cbv;exact⟨C.trans l,n,t,b,g,i,W,rfl,C.none f,N,R,L,M,H,s,x,K⟩
theorem av(A:Ar)[h:bI A](b o n:Nat):A .off ⟨b,o,none⟩ n=⟨b,o+n,none⟩:=by rw[h.off];exact cI b o n
theorem cXM:jr Tryz.prog 324 Tryz.f324:=⟨Tryz.func324,by kernel_rfl,by kernel_rfl,by kernel_rfl⟩
theorem YW:jr Tryz.prog 183 Tryz.f183:=⟨Tryz.func183,by kernel_rfl,by kernel_rfl,by kernel_rfl⟩
theorem YV:jr Tryz.prog 373 Tryz.f373:=⟨Tryz.func373,by kernel_rfl,by kernel_rfl,by kernel_rfl⟩
theorem cXJ:jr Tryz.prog 374 Tryz.f374:=⟨Tryz.func374,by kernel_rfl,by kernel_rfl,by kernel_rfl⟩
theorem YU:jr Tryz.prog 375 Tryz.f375:=⟨Tryz.func375,by kernel_rfl,by kernel_rfl,by kernel_rfl⟩
theorem cXI:jr Tryz.prog 376 Tryz.f376:=⟨Tryz.func376,by kernel_rfl,by kernel_rfl,by kernel_rfl⟩
theorem cXH:jr Tryz.prog 378 Tryz.f378:=⟨Tryz.func378,by kernel_rfl,by kernel_rfl,by kernel_rfl⟩
theorem cXG:jr Tryz.prog 379 Tryz.f379:=⟨Tryz.func379,by kernel_rfl,by kernel_rfl,by kernel_rfl⟩
structure Up(h:ad)(b o:Nat)(x:Value)(h':ad):Prop where
 out:∃c e,h b=some (.cells c e (0,0))/\h'=bL h b (.cells (c.setIfInBounds o x) e (0,0))
theorem Up.jXz{b:Nat}{x v:Value}(u:Up h b o x h')(q:oh h ⟨b,o,none⟩ v):oh h' ⟨b,o,none⟩ x:=by obtain⟨c,e,d,rfl⟩:=u.out;obtain⟨-,c',g,a,f⟩:=q.out;simp only at a;rw[d]at a;cases a;refine⟨rfl,_,e,ae,?_⟩;have:=(jKc.1 f).1;simp only at this |-;rw[kXC this]
theorem Up.other{b p:Nat}{x v:Value}(u:Up h b o x h')(g:p≠o)(q:oh h ⟨b,p,none⟩ v):oh h' ⟨b,p,none⟩ v:=by obtain⟨c,e,f,rfl⟩:=u.out;obtain⟨-,c',i,a,d⟩:=q.out;simp only at a;rw[f]at a;cases a;refine⟨rfl,_,e,ae,?_⟩;simp only at d |-;rw[kXB (Ne.symm g)];exact d
theorem aZu{b:Nat}(q:oh h ⟨b,o,none⟩ (.int .i32 0)):Ct 363 [.pointer (some ⟨b,o,none⟩)] h (λv h'=>v=.tuple #[]/\Up h b o (.int .i32 1) h'):=by refine cg dKw Tryz.func363 λA f=>?_;cbv;refine xD YV .disable (by kernel_rfl) ?_;cbv;rw[av A];refine aJS cXJ (by kernel_rfl) q (λc e d e1 a=>?_);have u:Up h b o (.int .i32 1) d:=⟨c,e,e1,a⟩;cbv;refine xD YU .enable (by kernel_rfl) ?_;cbv;refine EM (t:=142) (by kernel_rfl) (by kernel_rfl) (by kernel_rfl) (u.jXz q) ?_;cbv;refine FX cXI .acquire (by kernel_rfl) ?_;cbv;exact⟨rfl,u⟩
theorem Jk{b:Nat}(q:oh h ⟨b,o,none⟩ (.int .i32 0)):Ct 325 [.pointer (some ⟨b,o,none⟩)] h (λv h'=>v=.tuple #[]/\Up h b o (.int .i32 1) h'):=by refine cg eQa Tryz.func325 λA c=>?_;cbv;rw[av A];refine(aZu q).mono (λv a hR=>?_);obtain⟨rfl,u⟩:=hR;cbv;exact⟨rfl,u⟩
theorem Sd{b:Nat}(q:oh h ⟨b,o,none⟩ (.int .i32 1)):Ct 364 [.pointer (some ⟨b,o,none⟩)] h (λv h'=>v=.tuple #[]/\Up h b o (.int .i32 0) h'):=by
 refine cg dKv Tryz.func364 λA m=>?_;cbv;rw[av A];obtain⟨-,d,f,j,k⟩:=q.out;refine⟨[.int .i32 1],⟨rfl,rfl,d,f,(0,0),j,λi n=>?_⟩,?_⟩
 .have:i=0:=by omega
  subst this;exact k
 cbv;refine EM (t:=142) (by kernel_rfl) (by kernel_rfl) (by kernel_rfl) q ?_;cbv;refine FX cXH .releaseMerge (by kernel_rfl) ?_;cbv;refine xD YV .disable (by kernel_rfl) ?_;cbv;rw[av A];refine JH cXG (by kernel_rfl) q (λc e l e1 g=>?_);have u:Up h b o (.int .i32 0) l:=⟨c,e,e1,g⟩;cbv;refine ba (λa=>?_) (λa=>?_)
 .rw[m.aN]at a;cases a
 cbv;refine xD YU .enable (by kernel_rfl) ?_;cbv;exact⟨rfl,u⟩
theorem yN{b:Nat}(q:oh h ⟨b,o,none⟩ (.int .i32 1)):fXj 326 [.pointer (some ⟨b,o,none⟩)] h (λv h'=>v=.tuple #[]/\Up h b o (.int .i32 0) h'):=by obtain⟨A,c⟩:=Ar.ex;refine xB A (aj dKZ.aw dKZ.bq) Tryz.func326 rfl (by kernel_rfl) ?_;cbv;rw[av A];refine(Sd q).mono (λv a hR=>?_);obtain⟨rfl,u⟩:=hR;cbv;exact⟨rfl,u⟩
theorem od{b:Nat}{x:Int}(q:oh h ⟨b,o,none⟩ (.int .u32 x)):Ct 243 [.pointer (some ⟨b,o,none⟩)] h (λv h'=>∃t,v=.bool t/\t=decide (x≠0)/\h'=h):=by refine cg eXv Tryz.func243 λA a=>?_;cbv;rw[av A];refine Mn cXM (by kernel_rfl) q ?_;cbv;refine⟨_,rfl,?_,rfl⟩;rw[a.aN];simp[aN];rfl
theorem hJm(h:ad):Ct 184 [.bool true] h (λv h'=>v=.int .u32 1/\h'=h):=by refine cg eZw Tryz.func184 λA a=>?_;cbv
theorem BJ{b:Nat}{x:Value}(q:oh h ⟨b,o,none⟩ x):fXj 77 [.pointer (some ⟨b,o,none⟩),.bool true] h (λv h'=>v=.tuple #[]/\Up h b o (.int .u32 1) h'):=by obtain⟨A,f⟩:=Ar.ex;refine xB A (aj fQZ.aw fQZ.bq) Tryz.func77 rfl (by kernel_rfl) ?_;cbv;refine(hJm h).mono (λv a hR=>?_);obtain⟨rfl,rfl⟩:=hR;cbv;rw[av A];refine Cr YW (by kernel_rfl) q (λc e a e1 d=>?_);have u:Up _ b o (.int .u32 1) a:=⟨c,e,e1,d⟩;cbv;exact⟨rfl,u⟩
theorem NI{b:Nat}(q:oh h ⟨b,o,none⟩ (.int .u32 0))(l:oh h ⟨b,o+1,none⟩ (.int .i32 0))
 (G:∀e,Up h b (o+1) (.int .i32 1) e->Ct 303 [.pointer (some a1),.pointer (some a2)] e (λv a=>v=.tuple #[]/\oh a ⟨b,o,none⟩ (.int .u32 0)/\oh a ⟨b,o+1,none⟩ (.int .i32 1)/\Q a)):
 Ct 244 [.pointer (some ⟨b,o,none⟩),.func (.func 303) #[] #[.pointer (some a1),.pointer (some a2)]] h (λv h'=>v=.tuple #[]/\∃a c,Q a/\Up a b o (.int .u32 1) c/\Up c b (o+1) (.int .i32 0) h'):=by
 obtain⟨A,j⟩:=Ar.ex;refine nY A (aj Uy.aw Uy.bq) Tryz.func244 rfl (by kernel_rfl) ?_;cbv;rw[av A];refine(Jk l).mono (λv e hR=>?_);obtain⟨rfl,u⟩:=hR;have d:=u.other (by omega) q;cbv;rw[av A];rw[av A];refine(od d).mono (λv a hR=>?_);obtain⟨t,rfl,f,rfl⟩:=hR;have f:t=false:=by rw[f];rfl
 subst f;cbv;rw[j.not];cbv;rw[av A];refine(G _ u).mono (λv a hR=>?_);obtain⟨rfl,g,i,k⟩:=hR;cbv;refine(BJ g).mono (λv c hR=>?_);obtain⟨-,X⟩:=hR;have H:=X.other (by omega) i;cbv;refine(yN H).mono (λv m hR=>?_);obtain⟨-,K⟩:=hR;cbv;exact⟨rfl,a,c,k,X,K⟩
theorem aKh{b:Nat}(q:oh h ⟨b,o,none⟩ (.int .u32 0))(g:oh h ⟨b,o+1,none⟩ (.int .i32 0))
 (G:∀d,Up h b (o+1) (.int .i32 1) d->Ct 303 [.pointer (some a1),.pointer (some a2)] d (λv a=>v=.tuple #[]/\oh a ⟨b,o,none⟩ (.int .u32 0)/\oh a ⟨b,o+1,none⟩ (.int .i32 1)/\Q a)):
 Ct 126 [.pointer (some ⟨b,o,none⟩),.func (.func 303) #[] #[.pointer (some a1),.pointer (some a2)]] h (λv h'=>v=.tuple #[]/\∃a e,Q a/\Up a b o (.int .u32 1) e/\Up e b (o+1) (.int .i32 0) h'):=by
 refine cg Dw Tryz.func126 λA f=>?_;cbv;rw[av A];refine(od q).mono (λv a hR=>?_);obtain⟨t,rfl,c,rfl⟩:=hR;have c:t=false:=by rw[c];rfl
 subst c;cbv;rw[f.not];cbv;refine(NI q g G).mono (λv a hR=>?_);obtain⟨rfl,hR⟩:=hR;cbv;exact⟨rfl,hR⟩
theorem Zh{b:Nat}(q:oh h ⟨b,o,none⟩ (.int .u32 1)):
 Ct 126 [.pointer (some ⟨b,o,none⟩),.func (.func 303) #[] #[.pointer (some a1),.pointer (some a2)]] h (λv h'=>v=.tuple #[]/\h'=h):=by
 refine cg Dw Tryz.func126 λA c=>?_;cbv;rw[av A];refine(od q).mono (λv d hR=>?_);obtain⟨t,rfl,a,rfl⟩:=hR;have a:t=true:=by rw[a];rfl
 subst a;cbv;rw[c.not];cbv;exact⟨rfl,True.intro⟩
theorem KN{b:Nat}(q:oh h ⟨b,o,none⟩ (.int .u32 0))(l:oh h ⟨b,o+1,none⟩ (.int .i32 0))
 (G:∀e,Up h b (o+1) (.int .i32 1) e->Ct 354 [.pointer (some a1)] e (λv a=>v=.tuple #[]/\oh a ⟨b,o,none⟩ (.int .u32 0)/\oh a ⟨b,o+1,none⟩ (.int .i32 1)/\Q a)):
 Ct 244 [.pointer (some ⟨b,o,none⟩),.func (.func 354) #[.pointer (some a1)] #[]] h (λv h'=>v=.tuple #[]/\∃a c,Q a/\Up a b o (.int .u32 1) c/\Up c b (o+1) (.int .i32 0) h'):=by
 obtain⟨A,j⟩:=Ar.ex;refine nY A (aj Uy.aw Uy.bq) Tryz.func244 rfl (by kernel_rfl) ?_;cbv;rw[av A];refine(Jk l).mono (λv e hR=>?_);obtain⟨rfl,u⟩:=hR;have d:=u.other (by omega) q;cbv;rw[av A];rw[av A];refine(od d).mono (λv a hR=>?_);obtain⟨t,rfl,f,rfl⟩:=hR;have f:t=false:=by rw[f];rfl
 subst f;cbv;rw[j.not];cbv;rw[av A];refine(G _ u).mono (λv a hR=>?_);obtain⟨rfl,g,i,k⟩:=hR;cbv;refine(BJ g).mono (λv c hR=>?_);obtain⟨-,X⟩:=hR;have H:=X.other (by omega) i;cbv;refine(yN H).mono (λv m hR=>?_);obtain⟨-,K⟩:=hR;cbv;exact⟨rfl,a,c,k,X,K⟩
theorem Zg{b:Nat}(q:oh h ⟨b,o,none⟩ (.int .u32 0))(g:oh h ⟨b,o+1,none⟩ (.int .i32 0))
 (G:∀d,Up h b (o+1) (.int .i32 1) d->Ct 354 [.pointer (some a1)] d (λv a=>v=.tuple #[]/\oh a ⟨b,o,none⟩ (.int .u32 0)/\oh a ⟨b,o+1,none⟩ (.int .i32 1)/\Q a)):
 Ct 126 [.pointer (some ⟨b,o,none⟩),.func (.func 354) #[.pointer (some a1)] #[]] h (λv h'=>v=.tuple #[]/\∃a e,Q a/\Up a b o (.int .u32 1) e/\Up e b (o+1) (.int .i32 0) h'):=by
 refine cg Dw Tryz.func126 λA f=>?_;cbv;rw[av A];refine(od q).mono (λv a hR=>?_);obtain⟨t,rfl,c,rfl⟩:=hR;have c:t=false:=by rw[c];rfl
 subst c;cbv;rw[f.not];cbv;refine(KN q g G).mono (λv a hR=>?_);obtain⟨rfl,hR⟩:=hR;cbv;exact⟨rfl,hR⟩
theorem TZ{b:Nat}(q:oh h ⟨b,o,none⟩ (.int .u32 1)):
 Ct 126 [.pointer (some ⟨b,o,none⟩),.func (.func 354) #[.pointer (some a1)] #[]] h (λv h'=>v=.tuple #[]/\h'=h):=by
 refine cg Dw Tryz.func126 λA c=>?_;cbv;rw[av A];refine(od q).mono (λv d hR=>?_);obtain⟨t,rfl,a,rfl⟩:=hR;have a:t=true:=by rw[a];rfl
 subst a;cbv;rw[c.not];cbv;exact⟨rfl,True.intro⟩
theorem cXC{a b c:Nat}{x:Int}{t j e1 e:Nat}{s1 s2 s3 s o1 o2 o y:Value}(d:h a=some (.cells #[.int .i64 x] t (e1,e)))(g:h b=some (.cells #[.zP c] j (0,0)))
 (f:h c=some (.cells #[s1,s2,s3,s,o1,o2,o,y] 148 (0,0))):
 Ct 303 [.zP a,.zP b] h (λv h'=>v=.tuple #[]/\h'=bL h c (.cells #[s1,s2,s3,s,o1,o2,o,.int .i64 x] 148 (0,0))):=by
 refine cg eQs Tryz.func303 λA k=>?_;cbv;refine cr g ?_;cbv;refine cr d ?_;cbv;rw[av A];refine ju f (by simp) (λh' i=>?_);cbv;exact⟨rfl,i⟩
theorem Up.exp{b e:Nat}{x:Value}(u:Up h b o x h')(g:h b=zcL e c):h'=bL h b (.cells (c.set o x).toArray e (0,0)):=by obtain⟨c',d,a,rfl⟩:=u.out;rw[g]at a;cases a;simp
theorem cm{b e:Nat}{x:Value}(g:h b=zcL e c)(hx:c[o]? =some x):oh h ⟨b,o,none⟩ x:=⟨rfl,_,e,g,by simpa using hx⟩
theorem wA{c t w i j:Nat}{T:List ca}{W:List (eY×Bool)}{H M:List bU}{x:Int}(q:jV h c t w i j T W H M e)(ht:c≠t)(hw:c≠w):
 Ct 209 [.zP c,.int .i64 x] h (λv h'=>v=.tuple #[]/\Kp [c] h h'/\jV h' c t w i j T W H M (if e=0 then x else e)):=by
 obtain⟨F,G,r,I,u,s,K,y,o,C,ho,q1,q2,q3,q4,q5,q6⟩:=q.out;refine cg eXZ Tryz.func209 λA S=>?_;cbv;intro p R L e1;cbv;intro g b Y N;have l:Le h R:=by rw[e1];exact Le.set L
 have a:Le R b:=by rw[N];exact Le.set Y
 have P:b g=some (.cells #[.int .i64 x] 33 (0,0)):=by rw[N];exact ae
 have O:b p=some (.cells #[.zP c] 134 (0,0)):=a _ _ (by rw[e1];exact ae);have U:=q.mono (l.trans a);have d:=(l.trans a) _ _ C;have E:p≠c:=λe=>by rw[e,C]at L;cases L
 have Z:g≠c:=λe=>by rw[e,l _ _ C]at Y;cases Y
 cbv;refine cr P ?_;cbv;refine ba (λf=>?_) (λf=>?_)
 .have hx:x≠0:=by intro e;rw[S.aN,e]at f;cases f
  clear f;cbv;refine cr O ?_;cbv;rw[av A];rcases ho with⟨rfl,rfl⟩|⟨rfl,he⟩
  .refine(aKh (a1:=⟨g,0,none⟩) (a2:=⟨p,0,none⟩) (Q:=λhq=>hq=bL b c (.cells #[.slice (zsA t) F i,.slice (zsA w) G j,.slice r I u,.slice s K y,.int .u32 0,.int .i32 1,.int .u32 0,.int .i64 x] 148 (0,0)))
    (cm d rfl) (cm d rfl) (λD hu=>?_)).mono (λv n hR=>?_)
   .have k:=hu.exp d;have J:D g=some (.cells #[.int .i64 x] 33 (0,0)):=by rw[k,ck Z];exact P
    have z:D p=some (.cells #[.zP c] 134 (0,0)):=by rw[k,ck E];exact O
    have X:D c=zcL 148 [.slice (zsA t) F i,.slice (zsA w) G j,.slice r I u,.slice s K y,.int .u32 0,.int .i32 1,.int .u32 0,.int .i64 0]:=by rw[k];exact ae
    refine(cXC J z X).mono (λv n hR=>?_);obtain⟨rfl,rfl⟩:=hR;exact⟨rfl,cm ae rfl,cm ae rfl,by rw[k,ek]⟩
   obtain⟨rfl,h5,h6,rfl,u5,u6⟩:=hR;have B:=u5.exp ae;rw[ek]at B;have V:=(congrFun B c).trans ae;have m:=u6.exp V;rw[B,ek]at m;cbv;have kp:Kp [c] b n:=by rw[m];exact Kp.set (by simp)
   have lt:∀tys,148∉tys->cO tys b n:=λtys hn=>by rw[m];exact cO.set d hn
   refine⟨rfl,((l.trans a).kp _).trans kp,F,G,r,I,u,s,K,y,1,?_,.inr ⟨rfl,?_⟩,q1,?_,q3,?_,?_,?_⟩
   .rw[m];exact ae
   .exact hx
   .exact q2.mono (((l.trans a).t _).trans (lt _ (by decide)))
   .exact q4.mono (((l.trans a).t _).trans (lt _ (by decide)))
   .exact q5.mono (((l.trans a).t _).trans (lt _ (by decide)))
   exact q6.mono (((l.trans a).t _).trans (lt _ (by decide)))
  refine(Zh (a1:=⟨g,0,none⟩) (a2:=⟨p,0,none⟩) (cm d rfl)).mono (λv n hR=>?_);obtain⟨rfl,rfl⟩:=hR;cbv;refine⟨rfl,(l.trans a).kp _,?_⟩;rw[if_neg he];exact U
 have hx:x=0:=by rw[S.aN]at f;simpa[aN]using f
 cbv;refine⟨rfl,(l.trans a).kp _,?_⟩;subst hx;have:(if e=0 then 0 else e)=e:=by split<;>simp_all
 rw[this];exact U
def oY:Sh ByteArray where
 n:=1
 R _ cs v:=cs=[.string v]
 len:=by rintro h cs x rfl;rfl
 one:=by rintro h cs x rfl;rfl
 tys:=[]
 mono:=λ_ q=>q
def jm:List ByteArray:=[⟨#[97,110,100]⟩,⟨#[98,101,103,105,110]⟩,⟨#[98,111,111,108]⟩,⟨#[98,121]⟩,⟨#[99,111,109,109,105,116]⟩,⟨#[99,111,117,110,116]⟩,⟨#[99,114,101,97,116,101]⟩,⟨#[100,101,108,101,116,101]⟩,⟨#[100,101,115,99]⟩,⟨#[100,114,111,112]⟩,⟨#[102,97,108,115,101]⟩,⟨#[102,114,111,109]⟩,⟨#[103,114,111,117,112]⟩,⟨#[105,110,115,101,114,116]⟩,⟨#[105,110,116]⟩,⟨#[105,110,116,111]⟩,⟨#[105,115]⟩,⟨#[106,111,105,110]⟩,⟨#[107,101,121]⟩,⟨#[108,105,109,105,116]⟩,⟨#[109,97,120]⟩,⟨#[109,105,110]⟩,⟨#[110,111,116]⟩,⟨#[110,117,108,108]⟩,⟨#[111,110]⟩,⟨#[111,110,108,121]⟩,⟨#[111,114]⟩,⟨#[111,114,100,101,114]⟩,⟨#[112,114,105,109,97,114,121]⟩,⟨#[114,111,108,108,98,97,99,107]⟩,⟨#[115,97,118,101,112,111,105,110,116]⟩,⟨#[115,101,108,101,99,116]⟩,⟨#[115,101,116]⟩,⟨#[115,117,109]⟩,⟨#[116,97,98,108,101]⟩,⟨#[116,101,120,116]⟩,⟨#[116,111]⟩,⟨#[116,114,117,101]⟩,⟨#[117,112,100,97,116,101]⟩,⟨#[118,97,108,117,101,115]⟩,⟨#[119,104,101,114,101]⟩]
theorem Ly:jm.Nodup:=by decide
theorem aZz(h:ad):Ct 371 [] h (λv h'=>Le h h'/\∃c,v=.slice (zsA c) 41 41/\Sl 9 oY h' v jm):=by
 refine cg dKo Tryz.func371 λA d=>?_;cbv;intro n a b e1;have g:a n=zcL 9 (jm.map Value.string):=by rw[e1];exact ae
 have r:Sx.Rows oY a (jm.map Value.string) 0 jm:=by refine⟨by decide,λi x hx=>?_⟩;have U:=(ff.1 hx).1;show List.take 1 (List.drop (0+i*1) _)=_;rw[tT,jKp,Rs (by simpa using U)];rw[ff]at hx;simp[hx.2]
 have s:Sl 9 oY a (.slice (zsA n) 41 41) jm:=Sl.fresh (xs:=jm) g r (by decide) (by decide);have hl:Le h a:=by rw[e1];exact Le.set b
 clear g r e1;cbv;exact⟨hl,n,rfl,s⟩
theorem bZB:Tryz.prog.underlying 453=some (.map 9 4):=by kernel_rfl
theorem u9:Tryz.prog.underlying 9=some .string:=by kernel_rfl
def BD(l:List ByteArray):List (Value×Value):=l.map λw=>(.string w,.bool true)
theorem Kp.new{bs:List Nat}{a c:ad}{m:Nat}(x:Kp bs h a)(g:h m=none)(y:Kp (m::bs) a c):Kp bs h c:=λb o q d=>
 y b o (x b o q d) (by
  intro f;rcases xl.1 f with e|e
  .rw[e,g]at q;cases q
  exact d e)
theorem aXY{s:Nat}{o1 o2 o Y:Value}(c:h s=some (.cells #[o1,o2,o,Y] 455 (0,0))):
 Ct 354 [.zP s] h (λv h'=>v=.tuple #[]/\Kp [s] h h'/\∃m,h m=none/\h' s=some (.cells #[o1,o2,o,.map (some m)] 455 (0,0))/\Mp h' m .string (BD jm)):=by
 refine cg dKC Tryz.func354 λA hA=>?_;cbv;intro m k a e1;have H:Le h k:=by rw[e1];exact Le.set a
 have S:m≠s:=λe=>by rw[e,c]at a;cases a
 have J:Mp k m .string []:=Mp.new (by rw[e1];exact ae);cbv;rw[av A];refine ju (H _ _ c) (by simp) (λq u=>?_);have E:Kp [s] k q:=by rw[u];exact Kp.set (by simp)
 have I:q s=some (.cells #[o1,o2,o,.map (some m)] 455 (0,0)):=by rw[u];exact ae
 have N:=J.kp E (by simpa using S);cbv;refine(aZz q).mono (λv M hR=>?_);obtain⟨t,Z,rfl,R⟩:=hR;have K:=N.kp (t.kp []) (by simp);have W:Kp [s] h M:=((H.kp _).trans E).trans (t.kp _);have L:=t _ _ I;have l:jm.length=41:=rfl;cbv;refine aX.go (G:=Int) (λz=>[(10,.v (.int .i64 z))]) (λ_=>[]) (λn z h'=>∃i:Nat,aZ z i/\n=41-i/\i<=41/\Kp [s] h h'/\h' s=some (.cells #[o1,o2,o,.map (some m)] 455 (0,0))/\Mp h' m .string (BD (jm.take i))/\Sl 9 oY h' (.slice (zsA Z) 41 41) jm) 41 0 (by constructor<;>cbv) ⟨0,⟨rfl⟩,rfl,by decide,W,L,K,R⟩ ?_
 intro n z h' O;cbv;obtain⟨i,b,hn,hi,D,g,Q,T⟩:=O;refine ba (λd=>?_) (λd=>?_)
 .have U:=b.lt (A:=A) (len:=41) d;clear d;cbv;obtain⟨x,hx⟩:=aJ (xs:=jm) (i:=i) (by rw[l];exact U);refine⟨⟨rfl,b.ix U⟩,?_⟩;cbv;refine T.load hx b.eq (λcs r=>?_);have r:cs=[.string x]:=r;subst r;cbv;rw[av A];refine cr g ?_;cbv;refine IW bZB u9 Q (key:=.string x) True.intro ?_ (λh4 C F t4=>?_)
  .intro p P e;obtain⟨w,V,rfl⟩:=xz.1 P;cases e;obtain⟨j,f⟩:=rK V;rw[qH]at f;split at f
   .rename_i X;have y:=ff.1 f;have B:=ff.1 hx;have:=wL.1 Ly j i y.1 B.1 X;rw[y.2,B.2]at this;exact this rfl
   cases f
  cbv;refine⟨41-(i+1),_,by omega,by constructor<;>cbv,i+1,b.succ (A:=A),rfl,by omega,Kp.new D a (F.sub (by simp)),F _ _ g (by simpa using λe=>S (Eq.symm e)),?_,T.mono (t4 _)⟩
  rw[qM,hx];simpa[BD]using C
 have lJ:=b.ge (A:=A) (len:=41) d;cbv;have:i=41:=by omega
 subst this;exact⟨rfl,D,m,a,g,Q⟩
end Go.S
