import Derived.Test.YtficmdggjjepmaaGreatTab
import Derived.Test.YtficmdggjjepmaaGreatRd
set_option linter.all false
set_option maxRecDepth 100000
namespace Go.S
open Go.Sx Go.Proofs
variable {a1 a2:Addr}{c:List Value}{cap m o:Nat}{b:Option Addr}{a:Value}{h h':ab}{Q:ab->Prop}
abbrev Ct(f:FuncId)(args:List Value)(h:ab)(R:Value->ab->Prop):Prop:=Ca (λ_=>Tryz.prog) f args h R
abbrev dZs(f:FuncId)(args:List Value)(h:ab)(R:Value->ab->Prop):Prop:=NU (λ_=>Tryz.prog) f args h R
structure gI where
 k:Int
 n:Int
 s:ByteArray
def aZ:Sh gI where
 n:=3
 R _ cs v:=cs=[.int .i64 v.k,.int .i64 v.n,.string v.s]
 len:=by rintro h cs x rfl;rfl
 one:=by rintro h cs x rfl;rfl
 tys:=[]
 mono:=λ_ q=>q
structure gY where
 name:ByteArray
 kind:Int
 null:Bool
def bt:Sh gY where
 n:=3
 R _ cs v:=cs=[.string v.name,.int .i64 v.kind,.bool v.null]
 len:=by rintro h cs x rfl;rfl
 one:=by rintro h cs x rfl;rfl
 tys:=[]
 mono:=λ_ q=>q
structure km where
 name:ByteArray
 at_:Int
def fA:Sh km where
 n:=2
 R _ cs v:=cs=[.string v.name,.int .i64 v.at_]
 len:=by rintro h cs x rfl;rfl
 one:=by rintro h cs x rfl;rfl
 tys:=[]
 mono:=λ_ q=>q
structure bJ where
 s:Int
 table:ByteArray
 x:Bool
def bf:Sh bJ where
 n:=3
 R _ cs v:=cs=[.int .i64 v.s,.string v.table,.bool v.x]
 len:=by rintro h cs x rfl;rfl
 one:=by rintro h cs x rfl;rfl
 tys:=[]
 mono:=λ_ q=>q
abbrev Row:=List gI
abbrev aU:Sh Row:=sM 87 aZ
structure rM where
 name:ByteArray
 aW:List gY
 key:Int
 only:Bool
structure bM where
 S:rM
 rows:List Row
def bu:Sh bM where
 n:=5
 R h cs t:=∃b1 n1 c1 b2 n2 c2,cs=[.string t.S.name,.slice b1 n1 c1,.int .i64 t.S.key,.bool t.S.only,.slice b2 n2 c2]/\Sl 58 bt h (.slice b1 n1 c1) t.S.aW/\Sl 88 aU h (.slice b2 n2 c2) t.rows
 len:=by rintro h cs x ⟨_,_,_,_,_,_,rfl,-⟩;rfl
 one:=by rintro h cs x ⟨_,_,_,_,_,_,rfl,-⟩;rfl
 tys:=[58,88,87]
 mono:=by rintro h h' cs x hl ⟨b1,n1,c1,b2,n2,c2,rfl,q1,q2⟩;exact⟨b1,n1,c1,b2,n2,c2,rfl,q1.mono (hl.sub),q2.mono (hl.sub)⟩
structure cW where
 table:ByteArray
 op:Int
 row:Row
def bW:Sh cW where
 n:=3
 R h cs t:=∃b n c,cs=[.string t.table,.int .i64 t.op,.slice b n c]/\Sl 87 aZ h (.slice b n c) t.row
 len:=by rintro h cs x ⟨_,_,_,rfl,-⟩;rfl
 one:=by rintro h cs x ⟨_,_,_,rfl,-⟩;rfl
 tys:=[87]
 mono:=by rintro h h' cs x hl ⟨b,n,c,rfl,q⟩;exact⟨b,n,c,rfl,q.mono (hl.sub)⟩
structure eG where
 s:Int
 log:List cW
 marks:List km
def bP:Sh (eG×Bool)where
 n:=3
 R h cs t:=∃b1 n1 c1 b2 n2 c2,cs=[.int .i64 t.1.s,.slice b1 n1 c1,.slice b2 n2 c2]/\Sl 228 bW h (.slice b1 n1 c1) t.1.log/\Sl 213 fA h (.slice b2 n2 c2) t.1.marks/\(t.2=true->c1=n1)
 len:=by rintro h cs x ⟨_,_,_,_,_,_,rfl,-⟩;rfl
 one:=by rintro h cs x ⟨_,_,_,_,_,_,rfl,-⟩;rfl
 tys:=[228,87,213]
 mono:=by rintro h h' cs x hl ⟨b1,n1,c1,b2,n2,c2,rfl,q1,q2,q3⟩;exact⟨b1,n1,c1,b2,n2,c2,rfl,q1.mono (hl.sub),q2.mono (hl.sub),q3⟩
structure DB where
 al:List bM
 aj:List eG
 holds:List bJ
 waits:List bJ
structure gv(h:ab)(v:Value)(d:DB):Prop where
 out:∃b1 n1 c1 b2 n2 c2 b3 n3 c3 b4 n4 c4 ws,v=.agg #[.slice b1 n1 c1,.slice b2 n2 c2,.slice b3 n3 c3,.slice b4 n4 c4]/\
  Sl 100 bu h (.slice b1 n1 c1) d.al/\Sl 211 bP h (.slice b2 n2 c2) ws/\Sl 316 bf h (.slice b3 n3 c3) d.holds/\Sl 316 bf h (.slice b4 n4 c4) d.waits/\ws.map (·.1)=d.aj
theorem vP{xs:List bJ}{len:Nat}(q:Sl 316 bf h (.slice b len cap) xs):
 Ct 155 [.slice b len cap] h (λv h'=>Le h h'/\∃d Q,v=.slice d len Q/\Sl 316 bf h' v xs/\∀M o s,d=some ⟨M,o,s⟩->h M=none):=by
 refine cp XS Tryz.func155 λA k=>?_;cbv;refine aL (λa=>?_) (λa=>?_)
 .rw[k.yw]at a;cbv;have m:b=none:=by cases b<;>simp at a |-
  subst m;have hl:len=0:=by
   rcases hJL len with e|e
   .exact e
   have:=q.aR e;cases this
  have:=q.len;have hx:xs=[]:=ee (by omega);subst hx hl;exact⟨Le.refl _,none,0,rfl,Sl.nil,λ_ _ _ e=>(by cases e)⟩
 cbv;intro u j i r;have l:Le h j:=by rw[r];exact Le.set i
 cbv;refine fj (q.mono (l.t _)) (by simp[bf]) rfl (by decide) (λn=>?_) (λw c t e1 p f g=>?_)
 .cbv;have:=q.len;have hx:xs=[]:=ee (by omega);subst hx n;exact⟨l,_,_,rfl,Sl.nil,λ_ _ _ e=>(by cases e;exact i)⟩
 cbv;exact⟨l.trans f,_,_,rfl,g.sl q.len,λ_ _ _ e=>(by cases e;exact l.none e1)⟩
theorem Hq{xs:List gY}{len:Nat}(q:Sl 58 bt h (.slice b len cap) xs):
 Ct 201 [.slice b len cap] h (λv h'=>Le h h'/\∃d Q,v=.slice d len Q/\Sl 58 bt h' v xs/\∀M o s,d=some ⟨M,o,s⟩->h M=none):=by
 refine cp XL Tryz.func201 λA k=>?_;cbv;refine aL (λa=>?_) (λa=>?_)
 .rw[k.yw]at a;cbv;have m:b=none:=by cases b<;>simp at a |-
  subst m;have hl:len=0:=by
   rcases hJL len with e|e
   .exact e
   have:=q.aR e;cases this
  have:=q.len;have hx:xs=[]:=ee (by omega);subst hx hl;exact⟨Le.refl _,none,0,rfl,Sl.nil,λ_ _ _ e=>(by cases e)⟩
 cbv;intro u j i r;have l:Le h j:=by rw[r];exact Le.set i
 cbv;refine fj (q.mono (l.t _)) (by simp[bt]) rfl (by decide) (λn=>?_) (λw c t e1 p f g=>?_)
 .cbv;have:=q.len;have hx:xs=[]:=ee (by omega);subst hx n;exact⟨l,_,_,rfl,Sl.nil,λ_ _ _ e=>(by cases e;exact i)⟩
 cbv;exact⟨l.trans f,_,_,rfl,g.sl q.len,λ_ _ _ e=>(by cases e;exact l.none e1)⟩
theorem Bf{xs:List gI}{len:Nat}(q:Sl 87 aZ h (.slice b len cap) xs):
 Ct 174 [.slice b len cap] h (λv h'=>Le h h'/\∃d Q,v=.slice d len Q/\Sl 87 aZ h' v xs/\∀M o s,d=some ⟨M,o,s⟩->h M=none):=by
 refine cp XP Tryz.func174 λA k=>?_;cbv;refine aL (λa=>?_) (λa=>?_)
 .rw[k.yw]at a;cbv;have m:b=none:=by cases b<;>simp at a |-
  subst m;have hl:len=0:=by
   rcases hJL len with e|e
   .exact e
   have:=q.aR e;cases this
  have:=q.len;have hx:xs=[]:=ee (by omega);subst hx hl;exact⟨Le.refl _,none,0,rfl,Sl.nil,λ_ _ _ e=>(by cases e)⟩
 cbv;intro u j i r;have l:Le h j:=by rw[r];exact Le.set i
 cbv;refine fj (q.mono (l.t _)) (by simp[aZ]) rfl (by decide) (λn=>?_) (λw c t e1 p f g=>?_)
 .cbv;have:=q.len;have hx:xs=[]:=ee (by omega);subst hx n;exact⟨l,_,_,rfl,Sl.nil,λ_ _ _ e=>(by cases e;exact i)⟩
 cbv;exact⟨l.trans f,_,_,rfl,g.sl q.len,λ_ _ _ e=>(by cases e;exact l.none e1)⟩
theorem Sp{xs:List km}{len:Nat}(q:Sl 213 fA h (.slice b len cap) xs):
 Ct 256 [.slice b len cap] h (λv h'=>Le h h'/\∃d Q,v=.slice d len Q/\Sl 213 fA h' v xs/\∀M o s,d=some ⟨M,o,s⟩->h M=none):=by
 refine cp NL Tryz.func256 λA k=>?_;cbv;refine aL (λa=>?_) (λa=>?_)
 .rw[k.yw]at a;cbv;have m:b=none:=by cases b<;>simp at a |-
  subst m;have hl:len=0:=by
   rcases hJL len with e|e
   .exact e
   have:=q.aR e;cases this
  have:=q.len;have hx:xs=[]:=ee (by omega);subst hx hl;exact⟨Le.refl _,none,0,rfl,Sl.nil,λ_ _ _ e=>(by cases e)⟩
 cbv;intro u j i r;have l:Le h j:=by rw[r];exact Le.set i
 cbv;refine fj (q.mono (l.t _)) (by simp[fA]) rfl (by decide) (λn=>?_) (λw c t e1 p f g=>?_)
 .cbv;have:=q.len;have hx:xs=[]:=ee (by omega);subst hx n;exact⟨l,_,_,rfl,Sl.nil,λ_ _ _ e=>(by cases e;exact i)⟩
 cbv;exact⟨l.trans f,_,_,rfl,g.sl q.len,λ_ _ _ e=>(by cases e;exact l.none e1)⟩
theorem PU{r:Row}{len:Nat}(q:Sl 87 aZ h (.slice b len cap) r):
 Ct 82 [.slice b len cap] h (λv h'=>Le h h'/\∃a e,v=.slice a len e/\Sl 87 aZ h' v r):=by
 refine cp fKj Tryz.func82 λA d=>?_;cbv;refine(Bf q).mono (λv h'=>?_);rintro⟨l,a,e,rfl,c,-⟩;cbv;exact⟨l,_,_,rfl,c⟩
theorem WZ{xs:List Row}{len:Nat}(q:Sl 88 aU h (.slice b len cap) xs):
 Ct 241 [.slice b len cap,.func (.func 82) #[] #[]] h (λv h'=>Le h h'/\∃c,h c=none/\v=.slice (some ⟨c,0,none⟩) len len/\cM 88 aU h' c len xs):=by
 have l:=q.len;obtain⟨Y,X⟩:=q.bound;refine cp cZN Tryz.func241 λA C=>?_;cbv;refine oy (s:=aU) rfl (by omega) (by decide) (λc w V e o=>?_);cbv;refine aK.go (G:=Int) (λz=>[(13,.v (.int .i64 z))]) (λ_=>[]) (λn z h'=>∃i:Nat,aM z i/\n=len-i/\i<=len/\Le h h'/\cM 88 aU h' c len (xs.take i)) len 0 (by constructor<;>cbv) ⟨0,⟨rfl⟩,by omega,by omega,e,o⟩ ?_
 intro n z h' j;cbv;obtain⟨i,a,H,D,m,P⟩:=j;refine aL (λd=>?_) (λd=>?_)
 .have I:=a.lt d;clear d;cbv;obtain⟨x,hx⟩:=di xs i;refine⟨⟨q.aR,a.ix I⟩,?_⟩;cbv;refine(q.mono (m.t _)).load hx a.eq (λcs u=>?_);obtain⟨v,rfl,g⟩:=u;obtain⟨p,K,t,rfl⟩:=g.form;cbv;refine(PU g).mono (λL y hR=>?_);obtain⟨f,r,E,rfl,Q⟩:=hR;cbv;refine⟨⟨rfl,a.ix I⟩,?_⟩;cbv;refine(P.mono (f.t _)).store (by decide) (i:=i) (by simp;omega) (by omega) (by omega) a.eq rfl (x:=x) ⟨_,rfl,Q⟩ (λB k J F=>?_);cbv;refine⟨len-(i+1),_,by omega,by constructor<;>cbv,i+1,a.succ (A:=A),rfl,by omega,?_,?_⟩
  .exact(m.trans f).aE (by simpa using V) k
  rw[if_neg (by simp;omega)]at F;rw[xx,hx];exact F
 have W:=a.ge d;cbv;have:i=len:=by omega
 subst this;refine⟨m,c,V,rfl,?_⟩;rw[l,hJz]at P;rw[l];exact P
theorem PV{t:bM}{c b d f:Value}(q:bu.R h [c,a,b,d,f] t):
 Ct 143 [.agg #[c,a,b,d,f]] h (λv h'=>Le h h'/\∃g i j k m,v=.agg #[g,i,j,k,m]/\bu.R h' [g,i,j,k,m] t):=by
 obtain⟨u,D,B,w,E,C,o,r,n⟩:=q;cases o;refine cp cKf Tryz.func143 λA z=>?_;cbv;refine(Hq r).mono (λv x hR=>?_);obtain⟨l,s,Q,rfl,e,-⟩:=hR;cbv;refine(WZ (n.mono (l.t _))).mono (λv y hR=>?_);obtain⟨I,F,V,rfl,p⟩:=hR;cbv;exact⟨l.trans I,_,_,_,_,_,rfl,_,_,_,_,_,_,rfl,e.mono (I.t _),p.sl n.len⟩
theorem Lt{xs:List bM}{len:Nat}(q:Sl 100 bu h (.slice b len cap) xs):
 Ct 165 [.slice b len cap,.func (.func 143) #[] #[]] h (λv h'=>Le h h'/\∃c,h c=none/\v=.slice (some ⟨c,0,none⟩) len len/\cM 100 bu h' c len xs):=by
 have l:=q.len;obtain⟨Z,X⟩:=q.bound;refine cp cJN Tryz.func165 λA S=>?_;cbv;refine oy (s:=bu) rfl (by omega) (by decide) (λc N V g D=>?_);cbv;refine aK.go (G:=Int) (λz=>[(13,.v (.int .i64 z))]) (λ_=>[]) (λn z h'=>∃i:Nat,aM z i/\n=len-i/\i<=len/\Le h h'/\cM 100 bu h' c len (xs.take i)) len 0 (by constructor<;>cbv) ⟨0,⟨rfl⟩,by omega,by omega,g,D⟩ ?_
 intro n z h' y;cbv;obtain⟨i,a,U,T,m,P⟩:=y;refine aL (λd=>?_) (λd=>?_)
 .have I:=a.lt d;clear d;cbv;obtain⟨x,hx⟩:=di xs i;refine⟨⟨q.aR,a.ix I⟩,?_⟩;cbv;refine(q.mono (m.t _)).load hx a.eq (λcs w=>?_);obtain⟨e,o,k,f,p,j,rfl,r,t⟩:=w;have E:bu.R h' _ x:=⟨e,o,k,f,p,j,rfl,r,t⟩;cbv;refine(PV E).mono (λv2 O hR=>?_);obtain⟨u,H,J,K,L,M,rfl,Q⟩:=hR;obtain⟨e,o,k,f,p,j,B,r,t⟩:=Q;cases B;cbv;refine⟨⟨rfl,a.ix I⟩,?_⟩;cbv;refine(P.mono (u.t _)).store (by decide) (i:=i) (by simp;omega) (by omega) (by omega) a.eq rfl (x:=x) ⟨e,o,k,f,p,j,rfl,r,t⟩ (λR C Y F=>?_);cbv;refine⟨len-(i+1),_,by omega,by constructor<;>cbv,i+1,a.succ (A:=A),rfl,by omega,?_,?_⟩
  .exact(m.trans u).aE (by simpa using V) C
  rw[if_neg (by simp;omega)]at F;rw[xx,hx];exact F
 have W:=a.ge d;cbv;have:i=len:=by omega
 subst this;refine⟨m,c,V,rfl,?_⟩;rw[l,hJz]at P;rw[l];exact P
theorem bZk{t:cW}{c b:Value}(q:bW.R h [c,a,b] t):
 Ct 180 [.agg #[c,a,b]] h (λv h'=>Le h h'/\∃d f g,v=.agg #[d,f,g]/\bW.R h' [d,f,g] t):=by
 obtain⟨m,r,p,i,j⟩:=q;cases i;refine cp cJE Tryz.func180 λA o=>?_;cbv;refine(PU j).mono (λv n hR=>?_);obtain⟨l,k,Q,rfl,e⟩:=hR;cbv;exact⟨l,_,_,_,rfl,_,_,_,rfl,e⟩
theorem JJ{xs:List cW}{len:Nat}(q:Sl 228 bW h (.slice b len cap) xs):
 Ct 179 [.slice b len cap,.func (.func 180) #[] #[]] h (λv h'=>Le h h'/\∃c,h c=none/\v=.slice (some ⟨c,0,none⟩) len len/\cM 228 bW h' c len xs):=by
 have l:=q.len;obtain⟨Y,X⟩:=q.bound;refine cp cJF Tryz.func179 λA K=>?_;cbv;refine oy (s:=bW) rfl (by omega) (by decide) (λc E V f w=>?_);cbv;refine aK.go (G:=Int) (λz=>[(13,.v (.int .i64 z))]) (λ_=>[]) (λn z h'=>∃i:Nat,aM z i/\n=len-i/\i<=len/\Le h h'/\cM 228 bW h' c len (xs.take i)) len 0 (by constructor<;>cbv) ⟨0,⟨rfl⟩,by omega,by omega,f,w⟩ ?_
 intro n z h' p;cbv;obtain⟨i,a,M,L,m,P⟩:=p;refine aL (λd=>?_) (λd=>?_)
 .have I:=a.lt d;clear d;cbv;obtain⟨x,hx⟩:=di xs i;refine⟨⟨q.aR,a.ix I⟩,?_⟩;cbv;refine(q.mono (m.t _)).load hx a.eq (λcs u=>?_);obtain⟨e,g,k,rfl,j⟩:=u;have y:bW.R h' _ x:=⟨e,g,k,rfl,j⟩;cbv;refine(bZk y).mono (λO H hR=>?_);obtain⟨o,B,C,D,rfl,Q⟩:=hR;obtain⟨e,g,k,r,j⟩:=Q;cases r;cbv;refine⟨⟨rfl,a.ix I⟩,?_⟩;cbv;refine(P.mono (o.t _)).store (by decide) (i:=i) (by simp;omega) (by omega) (by omega) a.eq rfl (x:=x) ⟨e,g,k,rfl,j⟩ (λJ t N F=>?_);cbv;refine⟨len-(i+1),_,by omega,by constructor<;>cbv,i+1,a.succ (A:=A),rfl,by omega,?_,?_⟩
  .exact(m.trans o).aE (by simpa using V) t
  rw[if_neg (by simp;omega)]at F;rw[xx,hx];exact F
 have W:=a.ge d;cbv;have:i=len:=by omega
 subst this;refine⟨m,c,V,rfl,?_⟩;rw[l,hJz]at P;rw[l];exact P
theorem aXs{t:eG×Bool}{c b:Value}(q:bP.R h [c,a,b] t):
 Ct 167 [.agg #[c,a,b]] h (λv h'=>Le h h'/\∃d f g,v=.agg #[d,f,g]/\bP.R h' [d,f,g] (t.1,true)):=by
 obtain⟨n,y,w,p,z,x,j,i,k,-⟩:=q;cases j;refine cp XQ Tryz.func167 λA u=>?_;cbv;refine(JJ i).mono (λv r hR=>?_);obtain⟨l,B,V,rfl,o⟩:=hR;cbv;refine(Sp (k.mono (l.t _))).mono (λv s hR=>?_);obtain⟨I,m,Q,rfl,e,-⟩:=hR;cbv;exact⟨l.trans I,_,_,_,rfl,_,_,_,_,_,_,rfl,(o.sl i.len).mono (I.t _),e,λ_=>rfl⟩
theorem Xa{xs:List (eG×Bool)}{len:Nat}(q:Sl 211 bP h (.slice b len cap) xs):
 Ct 166 [.slice b len cap,.func (.func 167) #[] #[]] h (λv h'=>Le h h'/\∃c,h c=none/\v=.slice (some ⟨c,0,none⟩) len len/\cM 211 bP h' c len (xs.map λp=>(p.1,true))):=by
 have l:=q.len;obtain⟨Z,X⟩:=q.bound;refine cp XR Tryz.func166 λA S=>?_;cbv;refine oy (s:=bP) rfl (by omega) (by decide) (λc N V g H=>?_);cbv;refine aK.go (G:=Int) (λz=>[(13,.v (.int .i64 z))]) (λ_=>[]) (λn z h'=>∃i:Nat,aM z i/\n=len-i/\i<=len/\Le h h'/\cM 211 bP h' c len ((xs.take i).map λp=>(p.1,true))) len 0 (by constructor<;>cbv) ⟨0,⟨rfl⟩,by omega,by omega,g,H⟩ ?_
 intro n z h' C;cbv;obtain⟨i,a,U,T,m,P⟩:=C;refine aL (λd=>?_) (λd=>?_)
 .have I:=a.lt d;clear d;cbv;obtain⟨x,hx⟩:=di xs i;refine⟨⟨q.aR,a.ix I⟩,?_⟩;cbv;refine(q.mono (m.t _)).load hx a.eq (λcs B=>?_);obtain⟨e,o,k,f,r,j,rfl,t,u,w⟩:=B;have J:bP.R h' _ x:=⟨e,o,k,f,r,j,rfl,t,u,w⟩;cbv;refine(aXs J).mono (λv2 O hR=>?_);obtain⟨y,K,L,M,rfl,Q⟩:=hR;obtain⟨e,o,k,f,r,j,D,t,u,w⟩:=Q;cases D;cbv;refine⟨⟨rfl,a.ix I⟩,?_⟩;cbv;refine(P.mono (y.t _)).store (by decide) (i:=i) (by simp;omega) (by omega) (by omega) a.eq rfl (x:=(x.1,true)) ⟨e,o,k,f,r,j,rfl,t,u,w⟩ (λR E Y F=>?_);cbv;refine⟨len-(i+1),_,by omega,by constructor<;>cbv,i+1,a.succ (A:=A),rfl,by omega,?_,?_⟩
  .exact(m.trans y).aE (by simpa using V) E
  rw[if_neg (by simp;omega)]at F;rw[xx,hx];simpa using F
 have W:=a.ge d;cbv;have:i=len:=by omega
 subst this;refine⟨m,c,V,rfl,?_⟩;rw[l,hJz]at P;rw[l];exact P
theorem aJT:gD Tryz.prog 344 Tryz.f344:=⟨Tryz.func344,by kernel_rfl,by kernel_rfl,by kernel_rfl⟩
def cU(a b:ByteArray):Int:=Lib.compareBytes a.data.toList b.data.toList
structure Kc(l:List Int)(z:Int)(t:Bool):Prop where
 out:∃i,aM z i/\i=nQ l 0 l.length/\t=decide (i<l.length/\l.getD i 0=0)
theorem aKd(a b:ByteArray)(h:ab):Ct 304 [.string a,.string b] h (λv h'=>Le h h'/\∃z,v=.int .i64 z/\z=cU a b):=by refine cp cXQ Tryz.func304 λA d=>?_;cbv;refine WV aJT (by kernel_rfl) ?_;generalize c:Lib.compareBytes a.data.toList b.data.toList=z;cbv;exact⟨Le.refl _,z,rfl,c.symm⟩
theorem Sm(a b:ByteArray)(h:ab):Ct 238 [.string a,.string b] h (λv h'=>Le h h'/\∃z,v=.int .i64 z/\z=cU a b):=by refine cp cZO Tryz.func238 λA e=>?_;cbv;refine(aKd a b h).mono (λv d hR=>?_);obtain⟨l,z,rfl,c⟩:=hR;cbv;exact⟨l,z,rfl,c⟩
theorem ZU(a b:ByteArray)(h:ab)(c d e f:Value):Ct 237 [.agg #[.string a,c,d,e,f],.string b] h (λv h'=>Le h h'/\∃z,v=.int .i64 z/\z=cU a b):=by refine cp cZP Tryz.func237 λA j=>?_;cbv;refine(Sm a b h).mono (λv i hR=>?_);obtain⟨l,z,rfl,g⟩:=hR;cbv;exact⟨l,z,rfl,g⟩
theorem fQl{xs:List bM}{len:Nat}(q:Sl 100 bu h (.slice b len cap) xs)(a:ByteArray):
 Ct 236 [.slice b len cap,.string a,.func (.func 237) #[] #[]] h (λv h'=>Le h h'/\∃(z:Int) (t:Bool),v=.tuple #[.int .i64 z,.bool t]/\Kc (xs.map (λx=>cU x.S.name a)) z t):=by
 have m:=q.len;obtain⟨Y,S⟩:=q.bound;have s:(xs.map (λx=>cU x.S.name a)).length=len:=by simp[m]
 generalize hl:xs.map (λx=>cU x.S.name a)=l at s;have C:∀(i:Nat) x,xs[i]? =some x->l[i]? =some ((λx=>cU x.S.name a) x):=λi x hx=>by rw[<-hl];simp[hx]
 refine cp cZQ Tryz.func236 λA d=>?_;cbv;refine aK.go (G:=Int×Int) (λg=>[(9,.v (.int .i64 g.1)),(10,.v (.int .i64 g.2))]) (λ_=>[])
  (λn g h'=>∃i j:Nat,aM g.1 i/\aM g.2 j/\n=j-i/\i<=j/\j<=len/\Le h h'/\nQ l 0 len=nQ l i j) len (0,A .nat len) ⟨?_,?_,?_⟩ ⟨0,len,⟨rfl⟩,⟨by rw[d.nat];rfl⟩,by omega,by omega,by omega,Le.refl _,rfl⟩ ?_
 .cbv
 .cbv
 .cbv
 intro n g h' J;cbv;obtain⟨i,j,c,o,T,K,P,e,D⟩:=J;refine aL (λf=>?_) (λf=>?_)
 .rw[c.pL (A:=A) o,yr]at f;cbv;refine⟨by decide,?_⟩;cbv;have p:=c.eXi (A:=A) o (by omega) (by omega);obtain⟨x,hx⟩:=ay (xs:=xs) (i:=(i+j) / 2) (by omega);refine⟨⟨q.aR,p.ix (by omega)⟩,?_⟩;cbv;refine(q.mono (e.t _)).load hx p.eq (λcs u=>?_);obtain⟨E,N,L,F,O,M,rfl,Q,R⟩:=u;cbv;refine(ZU x.S.name a _ _ _ _ _).mono (λv H hR=>?_);obtain⟨I,z,rfl,y⟩:=hR;cbv;have r:l.getD ((i+j) / 2) 0=z:=by rw[xa,C _ _ hx,y];rfl
  have U:=D;rw[nQ.eq_1 l i j,if_pos f,r]at U;refine aL (λk=>?_) (λk=>?_)
  .rw[d.az]at k;have B:z<0:=qH k;rw[if_pos B]at U;clear k B;cbv;refine⟨j-((i+j) / 2+1),(_,g.2),by omega,by constructor<;>cbv,(i+j) / 2+1,j,p.succ (A:=A),o,rfl,by omega,P,e.trans I,U⟩
  rw[d.az]at k;have B:¬z<0:=ra k;rw[if_neg B]at U;clear k B;cbv;refine⟨(i+j) / 2-i,(g.1,A .conv .i64 (A .aC .shr .u64 (A .conv .u64 (A .aC .add .i64 g.1 g.2)) 1)),by omega,by constructor<;>cbv,i,(i+j) / 2,c,p,rfl,by omega,by omega,e.trans I,U⟩
 rw[c.pL (A:=A) o,decide_eq_false_iff_not]at f;cbv;have U:=D;rw[nQ.eq_1 l i j,if_neg f]at U;have X:=c.pL (A:=A) (w:=A .nat len) (j:=len) ⟨by rw[d.nat];rfl⟩;refine aL (λk=>?_) (λk=>?_)
 .rw[k];rw[X,yr]at k;cbv;obtain⟨x,hx⟩:=di xs i;refine⟨⟨q.aR,c.ix (by omega)⟩,?_⟩;cbv;refine(q.mono (e.t _)).load hx c.eq (λcs u=>?_);obtain⟨E,N,L,F,O,M,rfl,Q,R⟩:=u;cbv;refine(ZU x.S.name a _ _ _ _ _).mono (λv H hR=>?_);obtain⟨I,z,rfl,y⟩:=hR;cbv;refine⟨e.trans I,_,_,rfl,⟨i,c,?_,?_⟩⟩
  .rw[s];exact U.symm
  rw[d.az];have r:l.getD i 0=z:=by rw[xa,C _ _ hx,y];rfl
  rw[r,s];simp[az,k];rfl
 rw[k];rw[X,decide_eq_false_iff_not]at k;cbv;refine⟨e,_,_,rfl,⟨i,c,?_,?_⟩⟩
 .rw[s];exact U.symm
 rw[s];simp[k]
theorem PW{d:DB}{v:Value}(q:gv h v d):
 Ct 78 [v] h (λB h'=>Le h h'/\∃t wb n a f k i g m j s,h t=none/\h wb=none/\
  B=.agg #[.slice (some ⟨t,0,none⟩) n n,.slice (some ⟨wb,0,none⟩) a a,.slice f k i,.slice g m j]/\
  n=d.al.length/\cM 100 bu h' t n d.al/\a=s.length/\cM 211 bP h' wb a s/\Sl 316 bf h' (.slice f k i) d.holds/\Sl 316 bf h' (.slice g m j) d.waits/\s=d.aj.map λw=>(w,true)):=by
 obtain⟨D,n,F,E,a,G,f,k,i,g,m,j,s,rfl,o,p,x,y,z⟩:=q.out;refine cp dZl Tryz.func78 λA L=>?_;cbv;refine(Lt o).mono (λv H hR=>?_);obtain⟨l,t,S,rfl,o1⟩:=hR;cbv;refine(Xa (p.mono (l.t _))).mono (λv I hR=>?_);obtain⟨b,wb,C,rfl,o2⟩:=hR;cbv;refine(vP (x.mono ((l.trans b).t _))).mono (λv J hR=>?_);obtain⟨c,N,M,rfl,r,-⟩:=hR;cbv;refine(vP (y.mono (((l.trans b).trans c).t _))).mono (λv K hR=>?_);obtain⟨e,O,R,rfl,u,-⟩:=hR;cbv;refine⟨((l.trans b).trans c).trans e,t,wb,n,a,_,_,_,_,_,_,_,S,l.none C,rfl,o.len,o1.mono (((b.trans c).trans e).t _),?_,o2.mono ((c.trans e).t _),r.mono (e.t _),u,?_⟩
 .rw[hJT];exact p.len
 rw[<-z,hKH];rfl
structure iL(h:ab)(c tb wb ct cw:Nat)(T:List bM)(W:List (eG×Bool))(H Wt:List bJ)(e:Int):Prop where
 out:∃n1 n2 b3 n3 c3 b4 n4 c4 o,h c=some (.cells #[.slice (some ⟨tb,0,none⟩) n1 ct,.slice (some ⟨wb,0,none⟩) n2 cw,.slice b3 n3 c3,.slice b4 n4 c4,.int .u32 o,.int .i32 0,.int .u32 0,.int .i64 e] 226 (0,0))/\
  ((o=0/\e=0)\/(o=1/\e≠0))/\
  n1=T.length/\cM 100 bu h tb ct T/\n2=W.length/\cM 211 bP h wb cw W/\Sl 316 bf h (.slice b3 n3 c3) H/\Sl 316 bf h (.slice b4 n4 c4) Wt
theorem iL.mono{c b wb a w:Nat}{T:List bM}{W:List (eG×Bool)}{H t:List bJ}{e:Int}(q:iL h c b wb a w T W H t e)(hl:Le h h'):iL h' c b wb a w T W H t e:=by obtain⟨u,v,d,x,g,f,y,i,o,j,k,l,m,n,p,r,s⟩:=q.out;exact⟨u,v,d,x,g,f,y,i,o,hl _ _ j,k,l,m.mono (hl.t _),n,p.mono (hl.t _),r.mono (hl.t _),s.mono (hl.t _)⟩
theorem zb{d:DB}{v:Value}(q:gv h v d):
 Ct 76 [v] h (λN h'=>Le h h'/\∃c t wb o p W,N=.pointer (some ⟨c,0,none⟩)/\h c=none/\h t=none/\h wb=none/\c≠t/\c≠wb/\W=(d.aj.map λw=>(w,true))/\o=d.al.length/\p=W.length/\iL h' c t wb o p d.al W d.holds d.waits 0):=by
 have M:=q;obtain⟨P,f,R,Q,g,T,i,C,k,j,D,m,V,rfl,-⟩:=M.out;refine cp dZm Tryz.func76 λA U=>?_;cbv;refine(PW q).mono (λv I hR=>?_);obtain⟨B,t,wb,f,g,i,C,k,j,D,m,W,S,O,rfl,r,s,u,x,E,F,G⟩:=hR;cbv;intro n y b z;have l:Le I y:=by rw[z];exact Le.set b
 have K:n≠t:=λe=>by
  obtain⟨c,a,-⟩:=s.out;rw[<-e,b]at a;cases a
 have L:n≠wb:=λe=>by
  obtain⟨c,a,-⟩:=x.out;rw[<-e,b]at a;cases a
 have H:=(congrFun z n).trans ae;have J:iL y n t wb f g d.al W d.holds d.waits 0:=
  ⟨f,g,i,C,k,j,D,m,0,H,.inl ⟨rfl,rfl⟩,r,s.mono (l.t _),u,x.mono (l.t _),E.mono (l.t _),F.mono (l.t _)⟩
 cbv;exact⟨B.trans l,n,t,wb,f,g,W,rfl,B.none b,S,O,K,L,G,r,u,J⟩
theorem ao(A:Ar)[h:aV A](b o n:Nat):A .off ⟨b,o,none⟩ n=⟨b,o+n,none⟩:=by rw[h.off];exact bL b o n
theorem aJU:gD Tryz.prog 206 Tryz.f206:=⟨Tryz.func206,by kernel_rfl,by kernel_rfl,by kernel_rfl⟩
theorem RQ:gD Tryz.prog 284 Tryz.f284:=⟨Tryz.func284,by kernel_rfl,by kernel_rfl,by kernel_rfl⟩
theorem RO:gD Tryz.prog 326 Tryz.f326:=⟨Tryz.func326,by kernel_rfl,by kernel_rfl,by kernel_rfl⟩
theorem aJR:gD Tryz.prog 327 Tryz.f327:=⟨Tryz.func327,by kernel_rfl,by kernel_rfl,by kernel_rfl⟩
theorem RN:gD Tryz.prog 328 Tryz.f328:=⟨Tryz.func328,by kernel_rfl,by kernel_rfl,by kernel_rfl⟩
theorem aJQ:gD Tryz.prog 329 Tryz.f329:=⟨Tryz.func329,by kernel_rfl,by kernel_rfl,by kernel_rfl⟩
theorem aJP:gD Tryz.prog 331 Tryz.f331:=⟨Tryz.func331,by kernel_rfl,by kernel_rfl,by kernel_rfl⟩
theorem aJO:gD Tryz.prog 332 Tryz.f332:=⟨Tryz.func332,by kernel_rfl,by kernel_rfl,by kernel_rfl⟩
structure Up(h:ab)(b o:Nat)(x:Value)(h':ab):Prop where
 out:∃c e,h b=some (.cells c e (0,0))/\h'=bH h b (.cells (c.setIfInBounds o x) e (0,0))
theorem Up.hXd{b:Nat}{x v:Value}(u:Up h b o x h')(q:ld h ⟨b,o,none⟩ v):ld h' ⟨b,o,none⟩ x:=by obtain⟨c,e,d,rfl⟩:=u.out;obtain⟨-,c',g,a,f⟩:=q.out;simp only at a;rw[d]at a;cases a;refine⟨rfl,_,e,ae,?_⟩;have:=(zj.1 f).1;simp only at this |-;rw[iQt this]
theorem Up.other{b p:Nat}{x v:Value}(u:Up h b o x h')(g:p≠o)(q:ld h ⟨b,p,none⟩ v):ld h' ⟨b,p,none⟩ v:=by obtain⟨c,e,f,rfl⟩:=u.out;obtain⟨-,c',i,a,d⟩:=q.out;simp only at a;rw[f]at a;cases a;refine⟨rfl,_,e,ae,?_⟩;simp only at d |-;rw[iQp (Ne.symm g)];exact d
theorem Vr{b:Nat}(q:ld h ⟨b,o,none⟩ (.int .i32 0)):Ct 282 [.pointer (some ⟨b,o,none⟩)] h (λv h'=>v=.tuple #[]/\Up h b o (.int .i32 1) h'):=by refine cp cZi Tryz.func282 λA f=>?_;cbv;refine sC RO .disable (by kernel_rfl) ?_;cbv;rw[ao A];refine WW aJR (by kernel_rfl) q (λc e d e1 a=>?_);have u:Up h b o (.int .i32 1) d:=⟨c,e,e1,a⟩;cbv;refine sC RN .enable (by kernel_rfl) ?_;cbv;refine zU (t:=142) (by kernel_rfl) (by kernel_rfl) (by kernel_rfl) (u.hXd q) ?_;cbv;refine AU aJQ .acquire (by kernel_rfl) ?_;cbv;exact⟨rfl,u⟩
theorem Ef{b:Nat}(q:ld h ⟨b,o,none⟩ (.int .i32 0)):Ct 207 [.pointer (some ⟨b,o,none⟩)] h (λv h'=>v=.tuple #[]/\Up h b o (.int .i32 1) h'):=by refine cp cJl Tryz.func207 λA c=>?_;cbv;rw[ao A];refine(Vr q).mono (λv a hR=>?_);obtain⟨rfl,u⟩:=hR;cbv;exact⟨rfl,u⟩
theorem LW{b:Nat}(q:ld h ⟨b,o,none⟩ (.int .i32 1)):Ct 283 [.pointer (some ⟨b,o,none⟩)] h (λv h'=>v=.tuple #[]/\Up h b o (.int .i32 0) h'):=by
 refine cp cZh Tryz.func283 λA m=>?_;cbv;rw[ao A];obtain⟨-,d,f,j,k⟩:=q.out;refine⟨[.int .i32 1],⟨rfl,rfl,d,f,(0,0),j,λi n=>?_⟩,?_⟩
 .have:i=0:=by omega
  subst this;exact k
 cbv;refine zU (t:=142) (by kernel_rfl) (by kernel_rfl) (by kernel_rfl) q ?_;cbv;refine AU aJP .releaseMerge (by kernel_rfl) ?_;cbv;refine sC RO .disable (by kernel_rfl) ?_;cbv;rw[ao A];refine EI aJO (by kernel_rfl) q (λc e l e1 g=>?_);have u:Up h b o (.int .i32 0) l:=⟨c,e,e1,g⟩;cbv;refine aL (λa=>?_) (λa=>?_)
 .rw[m.az]at a;cases a
 cbv;refine sC RN .enable (by kernel_rfl) ?_;cbv;exact⟨rfl,u⟩
theorem tK{b:Nat}(q:ld h ⟨b,o,none⟩ (.int .i32 1)):dZs 208 [.pointer (some ⟨b,o,none⟩)] h (λv h'=>v=.tuple #[]/\Up h b o (.int .i32 0) h'):=by obtain⟨A,c⟩:=Ar.ex;refine sA A (ah cJk.aw cJk.aP) Tryz.func208 rfl (by kernel_rfl) ?_;cbv;rw[ao A];refine(LW q).mono (λv a hR=>?_);obtain⟨rfl,u⟩:=hR;cbv;exact⟨rfl,u⟩
theorem kY{b:Nat}{x:Int}(q:ld h ⟨b,o,none⟩ (.int .u32 x)):Ct 116 [.pointer (some ⟨b,o,none⟩)] h (λv h'=>∃t,v=.bool t/\t=decide (x≠0)/\h'=h):=by refine cp cKA Tryz.func116 λA a=>?_;cbv;rw[ao A];refine Hd aJU (by kernel_rfl) q ?_;cbv;refine⟨_,rfl,?_,rfl⟩;rw[a.az];simp[az];rfl
theorem fJU(h:ab):Ct 285 [.bool true] h (λv h'=>v=.int .u32 1/\h'=h):=by refine cp cZg Tryz.func285 λA a=>?_;cbv
theorem wC{b:Nat}{x:Value}(q:ld h ⟨b,o,none⟩ x):dZs 209 [.pointer (some ⟨b,o,none⟩),.bool true] h (λv h'=>v=.tuple #[]/\Up h b o (.int .u32 1) h'):=by obtain⟨A,f⟩:=Ar.ex;refine sA A (ah XK.aw XK.aP) Tryz.func209 rfl (by kernel_rfl) ?_;cbv;refine(fJU h).mono (λv a hR=>?_);obtain⟨rfl,rfl⟩:=hR;cbv;rw[ao A];refine xz RQ (by kernel_rfl) q (λc e a e1 d=>?_);have u:Up _ b o (.int .u32 1) a:=⟨c,e,e1,d⟩;cbv;exact⟨rfl,u⟩
theorem Ix{b:Nat}(q:ld h ⟨b,o,none⟩ (.int .u32 0))(m:ld h ⟨b,o+1,none⟩ (.int .i32 0))
 (L:∀d,Up h b (o+1) (.int .i32 1) d->Ct 233 [.pointer (some a1),.pointer (some a2)] d (λv a=>v=.tuple #[]/\ld a ⟨b,o,none⟩ (.int .u32 0)/\ld a ⟨b,o+1,none⟩ (.int .i32 1)/\Q a)):
 Ct 117 [.pointer (some ⟨b,o,none⟩),.func (.func 233) #[] #[.pointer (some a1),.pointer (some a2)]] h (λv h'=>v=.tuple #[]/\∃a c,Q a/\Up a b o (.int .u32 1) c/\Up c b (o+1) (.int .i32 0) h'):=by
 obtain⟨A,k⟩:=Ar.ex;refine mF A (ah NM.aw NM.aP) Tryz.func117 rfl (by kernel_rfl) ?_;cbv;rw[ao A];refine(Ef m).mono (λv d hR=>?_);obtain⟨rfl,u⟩:=hR;have f:=u.other (by omega) q;cbv;rw[ao A];rw[ao A];refine(kY f).mono (λv a hR=>?_);obtain⟨t,rfl,e,rfl⟩:=hR;have e:t=false:=by rw[e];rfl
 subst e;cbv;rw[k.not];cbv;rw[ao A];refine(L _ u).mono (λv a hR=>?_);obtain⟨rfl,i,j,l⟩:=hR;cbv;refine(wC i).mono (λv c hR=>?_);obtain⟨-,g⟩:=hR;have O:=g.other (by omega) j;cbv;refine(tK O).mono (λv n hR=>?_);obtain⟨-,Z⟩:=hR;cbv;exact⟨rfl,a,c,l,g,Z⟩
theorem Xg{b:Nat}(q:ld h ⟨b,o,none⟩ (.int .u32 0))(g:ld h ⟨b,o+1,none⟩ (.int .i32 0))
 (L:∀d,Up h b (o+1) (.int .i32 1) d->Ct 233 [.pointer (some a1),.pointer (some a2)] d (λv a=>v=.tuple #[]/\ld a ⟨b,o,none⟩ (.int .u32 0)/\ld a ⟨b,o+1,none⟩ (.int .i32 1)/\Q a)):
 Ct 43 [.pointer (some ⟨b,o,none⟩),.func (.func 233) #[] #[.pointer (some a1),.pointer (some a2)]] h (λv h'=>v=.tuple #[]/\∃a e,Q a/\Up a b o (.int .u32 1) e/\Up e b (o+1) (.int .i32 0) h'):=by
 refine cp Oy Tryz.func43 λA f=>?_;cbv;rw[ao A];refine(kY q).mono (λv a hR=>?_);obtain⟨t,rfl,c,rfl⟩:=hR;have c:t=false:=by rw[c];rfl
 subst c;cbv;rw[f.not];cbv;refine(Ix q g L).mono (λv a hR=>?_);obtain⟨rfl,hR⟩:=hR;cbv;exact⟨rfl,hR⟩
theorem RZ{b:Nat}(q:ld h ⟨b,o,none⟩ (.int .u32 1)):
 Ct 43 [.pointer (some ⟨b,o,none⟩),.func (.func 233) #[] #[.pointer (some a1),.pointer (some a2)]] h (λv h'=>v=.tuple #[]/\h'=h):=by
 refine cp Oy Tryz.func43 λA c=>?_;cbv;rw[ao A];refine(kY q).mono (λv d hR=>?_);obtain⟨t,rfl,a,rfl⟩:=hR;have a:t=true:=by rw[a];rfl
 subst a;cbv;rw[c.not];cbv;exact⟨rfl,True.intro⟩
theorem FR{b:Nat}(q:ld h ⟨b,o,none⟩ (.int .u32 0))(m:ld h ⟨b,o+1,none⟩ (.int .i32 0))
 (L:∀d,Up h b (o+1) (.int .i32 1) d->Ct 301 [.pointer (some a1)] d (λv a=>v=.tuple #[]/\ld a ⟨b,o,none⟩ (.int .u32 0)/\ld a ⟨b,o+1,none⟩ (.int .i32 1)/\Q a)):
 Ct 117 [.pointer (some ⟨b,o,none⟩),.func (.func 301) #[.pointer (some a1)] #[]] h (λv h'=>v=.tuple #[]/\∃a c,Q a/\Up a b o (.int .u32 1) c/\Up c b (o+1) (.int .i32 0) h'):=by
 obtain⟨A,k⟩:=Ar.ex;refine mF A (ah NM.aw NM.aP) Tryz.func117 rfl (by kernel_rfl) ?_;cbv;rw[ao A];refine(Ef m).mono (λv d hR=>?_);obtain⟨rfl,u⟩:=hR;have f:=u.other (by omega) q;cbv;rw[ao A];rw[ao A];refine(kY f).mono (λv a hR=>?_);obtain⟨t,rfl,e,rfl⟩:=hR;have e:t=false:=by rw[e];rfl
 subst e;cbv;rw[k.not];cbv;rw[ao A];refine(L _ u).mono (λv a hR=>?_);obtain⟨rfl,i,j,l⟩:=hR;cbv;refine(wC i).mono (λv c hR=>?_);obtain⟨-,g⟩:=hR;have O:=g.other (by omega) j;cbv;refine(tK O).mono (λv n hR=>?_);obtain⟨-,Z⟩:=hR;cbv;exact⟨rfl,a,c,l,g,Z⟩
theorem RY{b:Nat}(q:ld h ⟨b,o,none⟩ (.int .u32 0))(g:ld h ⟨b,o+1,none⟩ (.int .i32 0))
 (L:∀d,Up h b (o+1) (.int .i32 1) d->Ct 301 [.pointer (some a1)] d (λv a=>v=.tuple #[]/\ld a ⟨b,o,none⟩ (.int .u32 0)/\ld a ⟨b,o+1,none⟩ (.int .i32 1)/\Q a)):
 Ct 43 [.pointer (some ⟨b,o,none⟩),.func (.func 301) #[.pointer (some a1)] #[]] h (λv h'=>v=.tuple #[]/\∃a e,Q a/\Up a b o (.int .u32 1) e/\Up e b (o+1) (.int .i32 0) h'):=by
 refine cp Oy Tryz.func43 λA f=>?_;cbv;rw[ao A];refine(kY q).mono (λv a hR=>?_);obtain⟨t,rfl,c,rfl⟩:=hR;have c:t=false:=by rw[c];rfl
 subst c;cbv;rw[f.not];cbv;refine(FR q g L).mono (λv a hR=>?_);obtain⟨rfl,hR⟩:=hR;cbv;exact⟨rfl,hR⟩
theorem Nr{b:Nat}(q:ld h ⟨b,o,none⟩ (.int .u32 1)):
 Ct 43 [.pointer (some ⟨b,o,none⟩),.func (.func 301) #[.pointer (some a1)] #[]] h (λv h'=>v=.tuple #[]/\h'=h):=by
 refine cp Oy Tryz.func43 λA c=>?_;cbv;rw[ao A];refine(kY q).mono (λv d hR=>?_);obtain⟨t,rfl,a,rfl⟩:=hR;have a:t=true:=by rw[a];rfl
 subst a;cbv;rw[c.not];cbv;exact⟨rfl,True.intro⟩
theorem aJK{a b c:Nat}{x:Int}{t e1 g:Nat}{s d e f o1 o2 o y:Value}(j:h a=some (.cells #[.int .i64 x] t (e1,g)))(i:h b=some (.cells #[.pointer (some ⟨c,0,none⟩)] m (0,0)))
 (k:h c=some (.cells #[s,d,e,f,o1,o2,o,y] 226 (0,0))):
 Ct 233 [.pointer (some ⟨a,0,none⟩),.pointer (some ⟨b,0,none⟩)] h (λv h'=>v=.tuple #[]/\h'=bH h c (.cells #[s,d,e,f,o1,o2,o,.int .i64 x] 226 (0,0))):=by
 refine cp cZT Tryz.func233 λA n=>?_;cbv;refine bc i ?_;cbv;refine bc j ?_;cbv;rw[ao A];refine iB k (by simp) (λh' l=>?_);cbv;exact⟨rfl,l⟩
theorem Up.exp{b e:Nat}{x:Value}(u:Up h b o x h')(g:h b=some (.cells (List.toArray c) e (0,0))):h'=bH h b (.cells (List.toArray (c.set o x)) e (0,0)):=by obtain⟨c',d,a,rfl⟩:=u.out;rw[g]at a;cases a;simp
theorem cP{b e:Nat}{x:Value}(g:h b=some (.cells (List.toArray c) e (0,0)))(hx:c[o]? =some x):ld h ⟨b,o,none⟩ x:=⟨rfl,_,e,g,by simpa using hx⟩
theorem ry{c t wb i w:Nat}{T:List bM}{W:List (eG×Bool)}{H N:List bJ}{e x:Int}(q:iL h c t wb i w T W H N e)(ht:c≠t)(hw:c≠wb):
 Ct 139 [.pointer (some ⟨c,0,none⟩),.int .i64 x] h (λv h'=>v=.tuple #[]/\Kp [c] h h'/\iL h' c t wb i w T W H N (if e=0 then x else e)):=by
 obtain⟨E,F,n,I,s,r,L,u,o,C,ho,q1,q2,q3,q4,q5,q6⟩:=q.out;refine cp cKj Tryz.func139 λA U=>?_;cbv;intro p S M e1;cbv;intro g d K O;have l:Le h S:=by rw[e1];exact Le.set M
 have b:Le S d:=by rw[O];exact Le.set K
 have R:d g=some (.cells #[.int .i64 x] 26 (0,0)):=by rw[O];exact ae
 have P:d p=some (.cells #[.pointer (some ⟨c,0,none⟩)] 220 (0,0)):=b _ _ (by rw[e1];exact ae);have V:=q.mono (l.trans b);have a:=(l.trans b) _ _ C;have B:p≠c:=λe=>by rw[e,C]at M;cases M
 have Z:g≠c:=λe=>by rw[e,l _ _ C]at K;cases K
 cbv;refine bc R ?_;cbv;refine aL (λf=>?_) (λf=>?_)
 .have hx:x≠0:=by intro e;rw[U.az,e]at f;cases f
  clear f;cbv;refine bc P ?_;cbv;rw[ao A];rcases ho with⟨rfl,rfl⟩|⟨rfl,he⟩
  .refine(Xg (a1:=⟨g,0,none⟩) (a2:=⟨p,0,none⟩) (Q:=λhq=>hq=bH d c (.cells (List.toArray [.slice (some ⟨t,0,none⟩) E i,.slice (some ⟨wb,0,none⟩) F w,.slice n I s,.slice r L u,.int .u32 0,.int .i32 1,.int .u32 0,.int .i64 x]) 226 (0,0)))
    (cP a rfl) (cP a rfl) (λD hu=>?_)).mono (λv m hR=>?_)
   .have j:=hu.exp a;have z:D g=some (.cells #[.int .i64 x] 26 (0,0)):=by rw[j,bU Z];exact R
    have G:D p=some (.cells #[.pointer (some ⟨c,0,none⟩)] 220 (0,0)):=by rw[j,bU B];exact P
    have J:D c=some (.cells (List.toArray [.slice (some ⟨t,0,none⟩) E i,.slice (some ⟨wb,0,none⟩) F w,.slice n I s,.slice r L u,.int .u32 0,.int .i32 1,.int .u32 0,.int .i64 0]) 226 (0,0)):=by rw[j];exact ae
    refine(aJK z G J).mono (λv m hR=>?_);obtain⟨rfl,rfl⟩:=hR;exact⟨rfl,cP ae rfl,cP ae rfl,by rw[j,dN]⟩
   obtain⟨rfl,h5,h6,rfl,u5,u6⟩:=hR;have y:=u5.exp ae;rw[dN]at y;have X:=(congrFun y c).trans ae;have k:=u6.exp X;rw[y,dN]at k;cbv;have kp:Kp [c] d m:=by rw[k];exact Kp.set (by simp)
   have lt:∀tys,226∉tys->cf tys d m:=λtys Y=>by rw[k];exact cf.set a Y
   refine⟨rfl,((l.trans b).kp _).trans kp,E,F,n,I,s,r,L,u,1,?_,.inr ⟨rfl,?_⟩,q1,?_,q3,?_,?_,?_⟩
   .rw[k];exact ae
   .exact hx
   .exact q2.mono (((l.trans b).t _).trans (lt _ (by decide)))
   .exact q4.mono (((l.trans b).t _).trans (lt _ (by decide)))
   .exact q5.mono (((l.trans b).t _).trans (lt _ (by decide)))
   exact q6.mono (((l.trans b).t _).trans (lt _ (by decide)))
  refine(RZ (a1:=⟨g,0,none⟩) (a2:=⟨p,0,none⟩) (cP a rfl)).mono (λv m hR=>?_);obtain⟨rfl,rfl⟩:=hR;cbv;refine⟨rfl,(l.trans b).kp _,?_⟩;rw[if_neg he];exact V
 have hx:x=0:=by rw[U.az]at f;simpa[az]using f
 cbv;refine⟨rfl,(l.trans b).kp _,?_⟩;subst hx;have:(if e=0 then 0 else e)=e:=by split<;>simp_all
 rw[this];exact V
def uM:Sh ByteArray where
 n:=1
 R _ cs v:=cs=[.string v]
 len:=by rintro h cs x rfl;rfl
 one:=by rintro h cs x rfl;rfl
 tys:=[]
 mono:=λ_ q=>q
def gC:List ByteArray:=[⟨#[97,110,100]⟩,⟨#[98,101,103,105,110]⟩,⟨#[98,111,111,108]⟩,⟨#[98,121]⟩,⟨#[99,111,109,109,105,116]⟩,⟨#[99,111,117,110,116]⟩,⟨#[99,114,101,97,116,101]⟩,⟨#[100,101,108,101,116,101]⟩,⟨#[100,101,115,99]⟩,⟨#[100,114,111,112]⟩,⟨#[102,97,108,115,101]⟩,⟨#[102,114,111,109]⟩,⟨#[103,114,111,117,112]⟩,⟨#[105,110,115,101,114,116]⟩,⟨#[105,110,116]⟩,⟨#[105,110,116,111]⟩,⟨#[105,115]⟩,⟨#[106,111,105,110]⟩,⟨#[107,101,121]⟩,⟨#[108,105,109,105,116]⟩,⟨#[109,97,120]⟩,⟨#[109,105,110]⟩,⟨#[110,111,116]⟩,⟨#[110,117,108,108]⟩,⟨#[111,110]⟩,⟨#[111,110,108,121]⟩,⟨#[111,114]⟩,⟨#[111,114,100,101,114]⟩,⟨#[112,114,105,109,97,114,121]⟩,⟨#[114,111,108,108,98,97,99,107]⟩,⟨#[115,97,118,101,112,111,105,110,116]⟩,⟨#[115,101,108,101,99,116]⟩,⟨#[115,101,116]⟩,⟨#[115,117,109]⟩,⟨#[116,97,98,108,101]⟩,⟨#[116,101,120,116]⟩,⟨#[116,111]⟩,⟨#[116,114,117,101]⟩,⟨#[117,112,100,97,116,101]⟩,⟨#[118,97,108,117,101,115]⟩,⟨#[119,104,101,114,101]⟩]
theorem Gx:gC.Nodup:=by decide
theorem Vx(h:ab):Ct 343 [] h (λv h'=>Le h h'/\∃c,v=.slice (some ⟨c,0,none⟩) 41 41/\Sl 9 uM h' v gC):=by
 refine cp cXu Tryz.func343 λA d=>?_;cbv;intro n a b e1;have g:a n=some (.cells (List.toArray (gC.map Value.string)) 9 (0,0)):=by rw[e1];exact ae
 have r:Sx.Rows uM a (gC.map Value.string) 0 gC:=by refine⟨by decide,λi x hx=>?_⟩;have I:=(dB.1 hx).1;show List.take 1 (List.drop (0+i*1) _)=_;rw[qp,TG,qM (by simpa using I)];rw[dB]at hx;simp[hx.2]
 have s:Sl 9 uM a (.slice (some ⟨n,0,none⟩) 41 41) gC:=Sl.fresh (xs:=gC) g r (by decide) (by decide);have hl:Le h a:=by rw[e1];exact Le.set b
 clear g r e1;cbv;exact⟨hl,n,rfl,s⟩
theorem aQx:Tryz.prog.underlying 393=some (.map 9 4):=by kernel_rfl
theorem u9:Tryz.prog.underlying 9=some .string:=by kernel_rfl
def wz(l:List ByteArray):List (Value×Value):=l.map λw=>(.string w,.bool true)
theorem Kp.new{bs:List Nat}{a c:ab}(x:Kp bs h a)(g:h m=none)(y:Kp (m::bs) a c):Kp bs h c:=λb o q d=>
 y b o (x b o q d) (by
  intro f;rcases xu.1 f with e|e
  .rw[e,g]at q;cases q
  exact d e)
theorem UX{s:Nat}{o1 o2 o Y:Value}(b:h s=some (.cells #[o1,o2,o,Y] 395 (0,0))):
 Ct 301 [.pointer (some ⟨s,0,none⟩)] h (λv h'=>v=.tuple #[]/\Kp [s] h h'/\∃m,h m=none/\h' s=some (.cells #[o1,o2,o,.map (some m)] 395 (0,0))/\Mp h' m .string (wz gC)):=by
 refine cp cXT Tryz.func301 λA hA=>?_;cbv;intro m q a e1;have J:Le h q:=by rw[e1];exact Le.set a
 have y:m≠s:=λe=>by rw[e,b]at a;cases a
 have X:Mp q m .string []:=Mp.new (by rw[e1];exact ae);cbv;rw[ao A];refine iB (J _ _ b) (by simp) (λr B=>?_);have F:Kp [s] q r:=by rw[B];exact Kp.set (by simp)
 have K:r s=some (.cells #[o1,o2,o,.map (some m)] 395 (0,0)):=by rw[B];exact ae
 have S:=X.kp F (by simpa using y);cbv;refine(Vx r).mono (λv M hR=>?_);obtain⟨t,Z,rfl,R⟩:=hR;have Q:=S.kp (t.kp []) (by simp);have W:Kp [s] h M:=((J.kp _).trans F).trans (t.kp _);have L:=t _ _ K;have l:gC.length=41:=rfl;cbv;refine aK.go (G:=Int) (λz=>[(10,.v (.int .i64 z))]) (λ_=>[]) (λn z h'=>∃i:Nat,aM z i/\n=41-i/\i<=41/\Kp [s] h h'/\h' s=some (.cells #[o1,o2,o,.map (some m)] 395 (0,0))/\Mp h' m .string (wz (gC.take i))/\Sl 9 uM h' (.slice (some ⟨Z,0,none⟩) 41 41) gC) 41 0 (by constructor<;>cbv) ⟨0,⟨rfl⟩,rfl,by decide,W,L,Q,R⟩ ?_
 intro n z h' N;cbv;obtain⟨i,c,hn,hi,E,k,f,O⟩:=N;refine aL (λd=>?_) (λd=>?_)
 .have I:=c.lt (A:=A) (len:=41) d;clear d;cbv;obtain⟨x,hx⟩:=ay (xs:=gC) (i:=i) (by rw[l];exact I);refine⟨⟨rfl,c.ix I⟩,?_⟩;cbv;refine O.load hx c.eq (λcs u=>?_);have u:cs=[.string x]:=u;subst u;cbv;rw[ao A];refine bc k ?_;cbv;refine yJ aQx u9 f (key:=.string x) True.intro ?_ (λh4 T H t4=>?_)
  .intro p P e;obtain⟨w,U,rfl⟩:=hJK.1 P;cases e;obtain⟨j,g⟩:=yl U;rw[hU]at g;split at g
   .rename_i V;have C:=dB.1 g;have D:=dB.1 hx;have:=hJA.1 Gx j i C.1 D.1 V;rw[C.2,D.2]at this;exact this rfl
   cases g
  cbv;refine⟨41-(i+1),_,by omega,by constructor<;>cbv,i+1,c.succ (A:=A),rfl,by omega,Kp.new E a (H.sub (by simp)),H _ _ k (by simpa using λe=>y (Eq.symm e)),?_,O.mono (t4 _)⟩
  rw[xx,hx];simpa[wz]using T
 have gW:=c.ge (A:=A) (len:=41) d;cbv;have:i=41:=by omega
 subst this;exact⟨rfl,E,m,a,k,f⟩
end Go.S
