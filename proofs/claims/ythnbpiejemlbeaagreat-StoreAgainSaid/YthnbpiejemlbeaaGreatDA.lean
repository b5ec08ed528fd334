import Derived.Test.YthnbpiejemlbeaaGreatTab
import Derived.Test.YthnbpiejemlbeaaGreatRd
set_option linter.all false
set_option maxRecDepth 100000
namespace Go.S
open Go.Sx Go.Proofs
variable {a1 a2:Addr}{e:Int}{c:List Value}{cap o:Nat}{b:Option Addr}{a:Value}{h h':ad}{Q:ad->Prop}
abbrev Ct(f:FuncId)(args:List Value)(h:ad)(R:Value->ad->Prop):Prop:=Hl (λ_=>Tryz.prog) f args h R
abbrev fZK(f:FuncId)(args:List Value)(h:ad)(R:Value->ad->Prop):Prop:=Wh (λ_=>Tryz.prog) f args h R
structure jq where
 k:Int
 n:Int
 s:ByteArray
def bG:Sh jq where
 n:=3
 R _ cs v:=cs=[.zI v.k,.zI v.n,.string v.s]
 len:=gg
 one:=by rintro h cs x rfl;rfl
 tys:=[]
 mono:=λ_ q=>q
structure jR where
 name:ByteArray
 kind:Int
 null:Bool
def bJ:Sh jR where
 n:=3
 R _ cs v:=cs=[.string v.name,.zI v.kind,.bool v.null]
 len:=gg
 one:=by rintro h cs x rfl;rfl
 tys:=[]
 mono:=λ_ q=>q
structure mS where
 name:ByteArray
 at_:Int
def dw:Sh mS where
 n:=2
 R _ cs v:=cs=[.string v.name,.zI v.at_]
 len:=gg
 one:=by rintro h cs x rfl;rfl
 tys:=[]
 mono:=λ_ q=>q
structure bZ where
 s:Int
 table:ByteArray
 x:Bool
def bC:Sh bZ where
 n:=3
 R _ cs v:=cs=[.zI v.s,.string v.table,.bool v.x]
 len:=gg
 one:=by rintro h cs x rfl;rfl
 tys:=[]
 mono:=λ_ q=>q
abbrev Row:=List jq
abbrev bK:Sh Row:=wh 45 bG
structure rM where
 name:ByteArray
 cols:List jR
 key:Int
 only:Bool
structure bS where
 S:rM
 rows:List Row
def bT:Sh bS where
 n:=5
 R h cs t:=∃b1 n1 c1 b2 n2 c2,cs=[.string t.S.name,.slice b1 n1 c1,.zI t.S.key,.bool t.S.only,.slice b2 n2 c2]/\Sl 202 bJ h (.slice b1 n1 c1) t.S.cols/\Sl 46 bK h (.slice b2 n2 c2) t.rows
 len:=by rintro h cs x ⟨_,_,_,_,_,_,rfl,-⟩;rfl
 one:=by rintro h cs x ⟨_,_,_,_,_,_,rfl,-⟩;rfl
 tys:=[202,46,45]
 mono:=by rintro h h' cs x hl ⟨b1,n1,c1,b2,n2,c2,rfl,q1,q2⟩;exact⟨b1,n1,c1,b2,n2,c2,rfl,q1.mono (hl.sub),q2.mono (hl.sub)⟩
structure cR where
 table:ByteArray
 op:Int
 row:Row
def bD:Sh cR where
 n:=3
 R h cs t:=∃b n c,cs=[.string t.table,.zI t.op,.slice b n c]/\Sl 45 bG h (.slice b n c) t.row
 len:=gg
 one:=by rintro h cs x ⟨_,_,_,rfl,-⟩;rfl
 tys:=[45]
 mono:=by rintro h h' cs x hl ⟨b,n,c,rfl,q⟩;exact⟨b,n,c,rfl,q.mono (hl.sub)⟩
structure eJ where
 s:Int
 log:List cR
 marks:List mS
def cu:Sh (eJ×Bool)where
 n:=3
 R h cs t:=∃b1 n1 c1 b2 n2 c2,cs=[.zI t.1.s,.slice b1 n1 c1,.slice b2 n2 c2]/\Sl 161 bD h (.slice b1 n1 c1) t.1.log/\Sl 183 dw h (.slice b2 n2 c2) t.1.marks/\(t.2=true->c1=n1)
 len:=gg
 one:=by rintro h cs x ⟨_,_,_,_,_,_,rfl,-⟩;rfl
 tys:=[161,45,183]
 mono:=by rintro h h' cs x hl ⟨b1,n1,c1,b2,n2,c2,rfl,q1,q2,q3⟩;exact⟨b1,n1,c1,b2,n2,c2,rfl,q1.mono (hl.sub),q2.mono (hl.sub),q3⟩
structure DB where
 ao:List bS
 ai:List eJ
 holds:List bZ
 waits:List bZ
structure fD(h:ad)(v:Value)(d:DB):Prop where
 out:∃b1 n1 c1 b2 n2 c2 b3 n3 c3 b4 n4 c4 ws,v=.agg #[.slice b1 n1 c1,.slice b2 n2 c2,.slice b3 n3 c3,.slice b4 n4 c4]/\
  Sl 61 bT h (.slice b1 n1 c1) d.ao/\Sl 79 cu h (.slice b2 n2 c2) ws/\Sl 253 bC h (.slice b3 n3 c3) d.holds/\Sl 253 bC h (.slice b4 n4 c4) d.waits/\ws.map (·.1)=d.ai
theorem BJ{xs:List bZ}{len:Nat}(q:Sl 253 bC h (.slice b len cap) xs):
 Ct 102 [.slice b len cap] h (λv h'=>Le h h'/\∃d B,v=.slice d len B/\Sl 253 bC h' v xs/\∀Q o s,d=some ⟨Q,o,s⟩->h Q=none):=by
 refine cB bXu Tryz.func102 λA j=>?_;cbv;refine bm (λa=>?_) (λa=>?_)
 .rw[j.CI]at a;cbv;have k:b=none:=by cases b<;>simp at a |-
  subst k;have hl:len=0:=by
   rcases kZE len with e|e
   .exact e
   have:=q.bu e;cases this
  have:=q.len
  grind [hx,Le.refl,Sl.nil]
 cbv;intro t i m w;have l:Le h i:=zqs w m
 cbv;refine dG (q.mono (l.t _)) (by simp[bC]) rfl dl (λn=>?_) (λu c r e1 p f g=>?_)
 .cbv;have:=q.len;have hx:xs=[]:=kZh ip;subst hx n;exact⟨l,_,_,rfl,Sl.nil,λ_ _ _ e=>gg⟩
 cbv;exact⟨l.trans f,_,_,rfl,g.sl q.len,λ_ _ _ e=>(by cases e;exact l.none e1)⟩
theorem NL{xs:List jR}{len:Nat}(q:Sl 202 bJ h (.slice b len cap) xs):
 Ct 218 [.slice b len cap] h (λv h'=>Le h h'/\∃d B,v=.slice d len B/\Sl 202 bJ h' v xs/\∀Q o s,d=some ⟨Q,o,s⟩->h Q=none):=by
 refine cB bXf Tryz.func218 λA j=>?_;cbv;refine bm (λa=>?_) (λa=>?_)
 .rw[j.CI]at a;cbv;have k:b=none:=by cases b<;>simp at a |-
  subst k;have hl:len=0:=by
   rcases kZE len with e|e
   .exact e
   have:=q.bu e;cases this
  have:=q.len
  grind [hx,Le.refl,Sl.nil]
 cbv;intro t i m w;have l:Le h i:=zqs w m
 cbv;refine dG (q.mono (l.t _)) (by simp[bJ]) rfl dl (λn=>?_) (λu c r e1 p f g=>?_)
 .cbv;have:=q.len;have hx:xs=[]:=kZh ip;subst hx n;exact⟨l,_,_,rfl,Sl.nil,λ_ _ _ e=>gg⟩
 cbv;exact⟨l.trans f,_,_,rfl,g.sl q.len,λ_ _ _ e=>(by cases e;exact l.none e1)⟩
theorem Ha{xs:List jq}{len:Nat}(q:Sl 45 bG h (.slice b len cap) xs):
 Ct 114 [.slice b len cap] h (λv h'=>Le h h'/\∃d B,v=.slice d len B/\Sl 45 bG h' v xs/\∀Q o s,d=some ⟨Q,o,s⟩->h Q=none):=by
 refine cB bXt Tryz.func114 λA j=>?_;cbv;refine bm (λa=>?_) (λa=>?_)
 .rw[j.CI]at a;cbv;have k:b=none:=by cases b<;>simp at a |-
  subst k;have hl:len=0:=by
   rcases kZE len with e|e
   .exact e
   have:=q.bu e;cases this
  have:=q.len
  grind [hx,Le.refl,Sl.nil]
 cbv;intro t i m w;have l:Le h i:=zqs w m
 cbv;refine dG (q.mono (l.t _)) (by simp[bG]) rfl dl (λn=>?_) (λu c r e1 p f g=>?_)
 .cbv;have:=q.len;have hx:xs=[]:=kZh ip;subst hx n;exact⟨l,_,_,rfl,Sl.nil,λ_ _ _ e=>gg⟩
 cbv;exact⟨l.trans f,_,_,rfl,g.sl q.len,λ_ _ _ e=>(by cases e;exact l.none e1)⟩
theorem aQS{xs:List mS}{len:Nat}(q:Sl 183 dw h (.slice b len cap) xs):
 Ct 220 [.slice b len cap] h (λv h'=>Le h h'/\∃d B,v=.slice d len B/\Sl 183 dw h' v xs/\∀Q o s,d=some ⟨Q,o,s⟩->h Q=none):=by
 refine cB VY Tryz.func220 λA j=>?_;cbv;refine bm (λa=>?_) (λa=>?_)
 .rw[j.CI]at a;cbv;have k:b=none:=by cases b<;>simp at a |-
  subst k;have hl:len=0:=by
   rcases kZE len with e|e
   .exact e
   have:=q.bu e;cases this
  have:=q.len
  grind [hx,Le.refl,Sl.nil]
 cbv;intro t i m w;have l:Le h i:=zqs w m
 cbv;refine dG (q.mono (l.t _)) (by simp[dw]) rfl dl (λn=>?_) (λu c r e1 p f g=>?_)
 .cbv;have:=q.len;have hx:xs=[]:=kZh ip;subst hx n;exact⟨l,_,_,rfl,Sl.nil,λ_ _ _ e=>gg⟩
 cbv;exact⟨l.trans f,_,_,rfl,g.sl q.len,λ_ _ _ e=>(by cases e;exact l.none e1)⟩
theorem YE{r:Row}{len:Nat}(q:Sl 45 bG h (.slice b len cap) r):
 Ct 46 [.slice b len cap] h (λv h'=>Le h h'/\∃a i,v=.slice a len i/\Sl 45 bG h' v r):=by
 refine cB iQN Tryz.func46 λA d=>?_;cbv;refine(Ha q).mono (λv h'=>?_);rintro⟨l,a,i,rfl,c,-⟩;cbv;exact⟨l,_,_,rfl,c⟩
theorem bQw{xs:List Row}{len:Nat}(q:Sl 46 bK h (.slice b len cap) xs):
 Ct 219 [.slice b len cap,.func (.func 46) #[] #[]] h (λv h'=>Le h h'/\∃c,h c=none/\v=.slice (zsA c) len len/\dt 46 bK h' c len xs):=by
 have f:=q.len;obtain⟨L,Q⟩:=q.bound;refine cB eJm Tryz.func219 λA C=>?_;cbv;refine tI (s:=bK) rfl ip dl (λc u e l o=>?_);cbv;refine ba.gz (G:=Int) (λz=>[(13,.v (.zI z))]) (λ_=>[]) (λn z h'=>∃i:Nat,bg z i/\n=len-i/\i<=len/\Le h h'/\dt 46 bK h' c len (xs.take i)) len 0 ⟨0,⟨rfl⟩,ip,ip,l,o⟩ ?_
 intro n z h' I;cbv;obtain⟨i,a,F,E,p,y⟩:=I;refine bm (λd=>?_) (λd=>?_)
 .have Z:=a.lt d;clear d;cbv;obtain⟨x,hx⟩:=cK xs i;refine⟨⟨q.bu,a.ix Z⟩,?_⟩;cbv;refine(q.mono (p.t _)).load hx a.eq (λcs r=>?_);obtain⟨v,rfl,g⟩:=r;obtain⟨j,J,t,rfl⟩:=g.form;cbv;refine(YE g).mono (λP w hR=>?_);obtain⟨M,m,K,rfl,O⟩:=hR;cbv;refine⟨⟨rfl,a.ix Z⟩,?_⟩;cbv;refine(y.mono (M.t _)).store dl (i:=i) (by simp;omega) ip ip a.eq rfl (x:=x) ⟨_,rfl,O⟩ (λB k H D=>?_);cbv;refine zqn (len-(i+1)) _ ip ⟨i+1,a.succ (A:=A),rfl,ip,?_,?_⟩
  .exact(p.trans M).bf (iu e) k
  rw[if_neg (by simp;omega)]at D;rw[kJG,hx];exact D
 have N:=a.ge d;cbv;have:i=len:=ip
 subst this;refine⟨p,c,e,rfl,?_⟩
 grind
theorem YF{t:bS}{b d e f:Value}(q:bT.R h [a,b,d,e,f] t):
 Ct 99 [.agg #[a,b,d,e,f]] h (λv h'=>Le h h'/\∃g i j k m,v=.agg #[g,i,j,k,m]/\bT.R h' [g,i,j,k,m] t):=by
 obtain⟨u,F,D,w,G,E,o,r,n⟩:=q;cases o;refine cB hKY Tryz.func99 λA B=>?_;cbv;refine(NL r).mono (λv y hR=>?_);obtain⟨l,s,C,rfl,c,-⟩:=hR;cbv;refine(bQw (n.mono (l.t _))).mono (λv z hR=>?_);obtain⟨M,H,x,rfl,p⟩:=hR;cbv;exact⟨l.trans M,_,_,_,_,_,rfl,_,_,_,_,_,_,rfl,c.mono (M.t _),p.sl n.len⟩
theorem SS{xs:List bS}{len:Nat}(q:Sl 61 bT h (.slice b len cap) xs):
 Ct 98 [.slice b len cap,.func (.func 99) #[] #[]] h (λv h'=>Le h h'/\∃c,h c=none/\v=.slice (zsA c) len len/\dt 61 bT h' c len xs):=by
 have u:=q.len;obtain⟨X,Q⟩:=q.bound;refine cB hKZ Tryz.func98 λA T=>?_;cbv;refine tI (s:=bT) rfl ip dl (λc P t l C=>?_);cbv;refine ba.gz (G:=Int) (λz=>[(13,.v (.zI z))]) (λ_=>[]) (λn z h'=>∃i:Nat,bg z i/\n=len-i/\i<=len/\Le h h'/\dt 61 bT h' c len (xs.take i)) len 0 ⟨0,⟨rfl⟩,ip,ip,l,C⟩ ?_
 intro n z h' I;cbv;obtain⟨i,a,V,U,p,H⟩:=I;refine bm (λd=>?_) (λd=>?_)
 .have Z:=a.lt d;clear d;cbv;obtain⟨x,hx⟩:=cK xs i;refine⟨⟨q.bu,a.ix Z⟩,?_⟩;cbv;refine(q.mono (p.t _)).load hx a.eq (λcs w=>?_);obtain⟨e,j,k,f,m,g,rfl,o,r⟩:=w;have E:bT.R h' _ x:=⟨e,j,k,f,m,g,rfl,o,r⟩;cbv;refine(YF E).mono (λv2 R hR=>?_);obtain⟨M,F,J,K,L,N,rfl,O⟩:=hR;obtain⟨e,j,k,f,m,g,y,o,r⟩:=O;cases y;cbv;refine⟨⟨rfl,a.ix Z⟩,?_⟩;cbv;refine(H.mono (M.t _)).store dl (i:=i) (by simp;omega) ip ip a.eq rfl (x:=x) ⟨e,j,k,f,m,g,rfl,o,r⟩ (λS B W D=>?_);cbv;refine zqn (len-(i+1)) _ ip ⟨i+1,a.succ (A:=A),rfl,ip,?_,?_⟩
  .exact(p.trans M).bf (iu t) B
  rw[if_neg (by simp;omega)]at D;rw[kJG,hx];exact D
 have Y:=a.ge d;cbv;have:i=len:=ip
 subst this;refine⟨p,c,t,rfl,?_⟩
 grind
theorem dXZ{t:cR}{b d:Value}(q:bD.R h [a,b,d] t):
 Ct 122 [.agg #[a,b,d]] h (λv h'=>Le h h'/\∃e f g,v=.agg #[e,f,g]/\bD.R h' [e,f,g] t):=by
 obtain⟨m,r,p,i,j⟩:=q;cases i;refine cB eKQ Tryz.func122 λA o=>?_;cbv;refine(YE j).mono (λv n hR=>?_);obtain⟨l,k,B,rfl,c⟩:=hR;cbv;exact⟨l,_,_,_,rfl,_,_,_,rfl,c⟩
theorem QE{xs:List cR}{len:Nat}(q:Sl 161 bD h (.slice b len cap) xs):
 Ct 121 [.slice b len cap,.func (.func 122) #[] #[]] h (λv h'=>Le h h'/\∃c,h c=none/\v=.slice (zsA c) len len/\dt 161 bD h' c len xs):=by
 have m:=q.len;obtain⟨R,Q⟩:=q.bound;refine cB eKR Tryz.func121 λA K=>?_;cbv;refine tI (s:=bD) rfl ip dl (λc F j l u=>?_);cbv;refine ba.gz (G:=Int) (λz=>[(13,.v (.zI z))]) (λ_=>[]) (λn z h'=>∃i:Nat,bg z i/\n=len-i/\i<=len/\Le h h'/\dt 161 bD h' c len (xs.take i)) len 0 ⟨0,⟨rfl⟩,ip,ip,l,u⟩ ?_
 intro n z h' I;cbv;obtain⟨i,a,N,L,p,y⟩:=I;refine bm (λd=>?_) (λd=>?_)
 .have Z:=a.lt d;clear d;cbv;obtain⟨x,hx⟩:=cK xs i;refine⟨⟨q.bu,a.ix Z⟩,?_⟩;cbv;refine(q.mono (p.t _)).load hx a.eq (λcs r=>?_);obtain⟨e,f,k,rfl,g⟩:=r;have w:bD.R h' _ x:=⟨e,f,k,rfl,g⟩;cbv;refine(dXZ w).mono (λT H hR=>?_);obtain⟨M,B,C,E,rfl,O⟩:=hR;obtain⟨e,f,k,o,g⟩:=O;cases o;cbv;refine⟨⟨rfl,a.ix Z⟩,?_⟩;cbv;refine(y.mono (M.t _)).store dl (i:=i) (by simp;omega) ip ip a.eq rfl (x:=x) ⟨e,f,k,rfl,g⟩ (λJ t P D=>?_);cbv;refine zqn (len-(i+1)) _ ip ⟨i+1,a.succ (A:=A),rfl,ip,?_,?_⟩
  .exact(p.trans M).bf (iu j) t
  rw[if_neg (by simp;omega)]at D;rw[kJG,hx];exact D
 have S:=a.ge d;cbv;have:i=len:=ip
 subst this;refine⟨p,c,j,rfl,?_⟩
 grind
theorem cQh{t:eJ×Bool}{c b:Value}(q:cu.R h [c,a,b] t):
 Ct 101 [.agg #[c,a,b]] h (λv h'=>Le h h'/\∃d e f,v=.agg #[d,e,f]/\cu.R h' [d,e,f] (t.1,true)):=by
 obtain⟨n,z,x,p,C,y,j,g,k,-⟩:=q;cases j;refine cB bXv Tryz.func101 λA w=>?_;cbv;refine(QE g).mono (λv s hR=>?_);obtain⟨l,D,r,rfl,o⟩:=hR;cbv;refine(aQS (k.mono (l.t _))).mono (λv u hR=>?_);obtain⟨M,m,B,rfl,i,-⟩:=hR;cbv;exact⟨l.trans M,_,_,_,rfl,_,_,_,_,_,_,rfl,(o.sl g.len).mono (M.t _),i,λ_=>rfl⟩
theorem bQx{xs:List (eJ×Bool)}{len:Nat}(q:Sl 79 cu h (.slice b len cap) xs):
 Ct 100 [.slice b len cap,.func (.func 101) #[] #[]] h (λv h'=>Le h h'/\∃c,h c=none/\v=.slice (zsA c) len len/\dt 79 cu h' c len (xs.map λp=>(p.1,true))):=by
 have w:=q.len;obtain⟨X,Q⟩:=q.bound;refine cB bXw Tryz.func100 λA T=>?_;cbv;refine tI (s:=cu) rfl ip dl (λc N u l E=>?_);cbv;refine ba.gz (G:=Int) (λz=>[(13,.v (.zI z))]) (λ_=>[]) (λn z h'=>∃i:Nat,bg z i/\n=len-i/\i<=len/\Le h h'/\dt 79 cu h' c len ((xs.take i).map λp=>(p.1,true))) len 0 ⟨0,⟨rfl⟩,ip,ip,l,E⟩ ?_
 intro n z h' I;cbv;obtain⟨i,a,V,U,S,H⟩:=I;refine bm (λd=>?_) (λd=>?_)
 .have Z:=a.lt d;clear d;cbv;obtain⟨x,hx⟩:=cK xs i;refine⟨⟨q.bu,a.ix Z⟩,?_⟩;cbv;refine(q.mono (S.t _)).load hx a.eq (λcs y=>?_);obtain⟨e,j,k,f,m,g,rfl,o,r,t⟩:=y;have F:cu.R h' _ x:=⟨e,j,k,f,m,g,rfl,o,r,t⟩;cbv;refine(cQh F).mono (λv2 P hR=>?_);obtain⟨M,J,K,L,rfl,O⟩:=hR;obtain⟨e,j,k,f,m,g,B,o,r,t⟩:=O;cases B;cbv;refine⟨⟨rfl,a.ix Z⟩,?_⟩;cbv;refine(H.mono (M.t _)).store dl (i:=i) (by simp;omega) ip ip a.eq rfl (x:=(x.1,true)) ⟨e,j,k,f,m,g,rfl,o,r,t⟩ (λR C W D=>?_);cbv;refine zqn (len-(i+1)) _ ip ⟨i+1,a.succ (A:=A),rfl,ip,?_,?_⟩
  .exact(S.trans M).bf (iu u) C
  rw[if_neg (by simp;omega)]at D;rw[kJG,hx]
  grind
 have Y:=a.ge d;cbv;have:i=len:=ip
 subst this;refine⟨S,c,u,rfl,?_⟩
 grind
theorem cJr:jJ Tryz.prog 362 Tryz.f362:=⟨Tryz.func362,by kernel_rfl,by kernel_rfl,by kernel_rfl⟩
def dy(a b:ByteArray):Int:=Lib.compareBytes a.data.toList b.data.toList
structure Rb(l:List Int)(z:Int)(t:Bool):Prop where
 out:∃i,bg z i/\i=sM l 0 l.length/\t=decide (i<l.length/\l.getD i 0=0)
theorem cJy(a b:ByteArray)(h:ad):Ct 323 [.string a,.string b] h (λv h'=>Le h h'/\∃z,v=.zI z/\z=dy a b):=by refine cB eXx Tryz.func323 λA d=>?_;cbv;refine bQl cJr (by kernel_rfl) ?_;generalize c:Lib.compareBytes a.data.toList b.data.toList=z;cbv;exact⟨Le.refl _,z,rfl,c.symm⟩
theorem aQR(a b:ByteArray)(h:ad):Ct 237 [.string a,.string b] h (λv h'=>Le h h'/\∃z,v=.zI z/\z=dy a b):=by refine cB eZW Tryz.func237 λA e=>?_;cbv;refine(cJy a b h).mono (λv d hR=>?_);obtain⟨l,z,rfl,c⟩:=hR;cbv;exact⟨l,z,rfl,c⟩
theorem bJr(a b:ByteArray)(h:ad)(c d e f:Value):Ct 236 [.agg #[.string a,c,d,e,f],.string b] h (λv h'=>Le h h'/\∃z,v=.zI z/\z=dy a b):=by refine cB eZX Tryz.func236 λA j=>?_;cbv;refine(aQR a b h).mono (λv i hR=>?_);obtain⟨l,z,rfl,g⟩:=hR;cbv;exact⟨l,z,rfl,g⟩
theorem hXl{xs:List bS}{len:Nat}(q:Sl 61 bT h (.slice b len cap) xs)(a:ByteArray):
 Ct 235 [.slice b len cap,.string a,.func (.func 236) #[] #[]] h (λv h'=>Le h h'/\∃(z:Int) (t:Bool),v=.tuple #[.zI z,.bool t]/\Rb (xs.map (λx=>dy x.S.name a)) z t):=by
 have m:=q.len;obtain⟨U,R⟩:=q.bound;have S:(xs.map (λx=>dy x.S.name a)).length=len:=by simp[m]
 generalize hl:xs.map (λx=>dy x.S.name a)=l at S;have V:∀(i:Nat) x,xs[i]? =some x->l[i]? =some ((λx=>dy x.S.name a) x):=λi x hx=>gg
 refine cB eZY Tryz.func235 λA d=>?_;cbv;refine ba.go (G:=Int×Int) (λg=>[(9,.v (.zI g.1)),(10,.v (.zI g.2))]) (λ_=>[])
  (λn g h'=>∃i j:Nat,bg g.1 i/\bg g.2 j/\n=j-i/\i<=j/\j<=len/\Le h h'/\sM l 0 len=sM l i j) len (0,A .nat len) ⟨?_,?_,?_⟩ ⟨0,len,⟨rfl⟩,⟨by rw[d.nat];rfl⟩,ip,ip,ip,Le.refl _,rfl⟩ ?_
 .cbv
 .cbv
 .cbv
 intro n g h' I;cbv;obtain⟨i,j,c,o,T,W,O,e,B⟩:=I;refine bm (λf=>?_) (λf=>?_)
 .rw[c.zQ (A:=A) o,kJP]at f;cbv;refine⟨dl,?_⟩;cbv;have p:=c.gXu (A:=A) o ip ip;obtain⟨x,hx⟩:=ay (xs:=xs) (i:=(i+j) / 2) ip;refine⟨⟨q.bu,p.ix ip⟩,?_⟩;cbv;refine(q.mono (e.t _)).load hx p.eq (λcs r=>?_);obtain⟨s,L,J,y,N,K,rfl,P,Q⟩:=r;cbv;refine(bJr x.S.name a _ _ _ _ _).mono (λv C hR=>?_);obtain⟨M,z,rfl,F⟩:=hR;cbv;have E:l.getD ((i+j) / 2) 0=z:=gg
  have D:=B;rw[sM.eq_1 l i j,if_pos f,E]at D;refine bm (λk=>?_) (λk=>?_)
  .rw[d.aQ]at k;have H:z<0:=kZr k;rw[if_pos H]at D;clear k H;cbv;refine zqn (j-((i+j) / 2+1)) (_,g.2) ip ⟨(i+j) / 2+1,j,p.succ (A:=A),o,rfl,ip,O,e.trans M,D⟩
  rw[d.aQ]at k;have H:¬z<0:=kZX k;rw[if_neg H]at D;clear k H;cbv;refine zqn ((i+j) / 2-i) (g.1,A .conv .i64 (A .aX .shr .u64 (A .conv .u64 (A .aX .add .i64 g.1 g.2)) 1)) ip ⟨i,(i+j) / 2,c,p,rfl,ip,ip,e.trans M,D⟩
 rw[c.zQ (A:=A) o,decide_eq_false_iff_not]at f;cbv;have D:=B;rw[sM.eq_1 l i j,if_neg f]at D;have u:=c.zQ (A:=A) (w:=A .nat len) (j:=len) ⟨by rw[d.nat];rfl⟩;refine bm (λk=>?_) (λk=>?_)
 .rw[k];rw[u,kJP]at k;cbv;obtain⟨x,hx⟩:=cK xs i;refine⟨⟨q.bu,c.ix ip⟩,?_⟩;cbv;refine(q.mono (e.t _)).load hx c.eq (λcs r=>?_);obtain⟨s,L,J,y,N,K,rfl,P,Q⟩:=r;cbv;refine(bJr x.S.name a _ _ _ _ _).mono (λv C hR=>?_);obtain⟨M,z,rfl,F⟩:=hR;cbv;refine⟨e.trans M,_,_,rfl,⟨i,c,?_,?_⟩⟩
  .grind
  rw[d.aQ]
  grind [hx,aQ]
 rw[k];rw[u,decide_eq_false_iff_not]at k;cbv;refine⟨e,_,_,rfl,⟨i,c,?_,?_⟩⟩
 .grind
 grind
theorem YG{d:DB}{v:Value}(q:fD h v d):
 Ct 40 [v] h (λz h'=>Le h h'/\∃t wb n a f k i g m j ws,h t=none/\h wb=none/\
  z=.agg #[.slice (zsA t) n n,.slice (zsA wb) a a,.slice f k i,.slice g m j]/\
  n=d.ao.length/\dt 61 bT h' t n d.ao/\a=ws.length/\dt 79 cu h' wb a ws/\Sl 253 bC h' (.slice f k i) d.holds/\Sl 253 bC h' (.slice g m j) d.waits/\ws=d.ai.map λw=>(w,true)):=by
 obtain⟨D,n,F,E,a,G,f,k,i,g,m,j,ws,rfl,o,p,u,x,y⟩:=q.out;refine cB fZD Tryz.func40 λA L=>?_;cbv;refine(SS o).mono (λv H hR=>?_);obtain⟨l,t,O,rfl,o1⟩:=hR;cbv;refine(bQx (p.mono (l.t _))).mono (λv I hR=>?_);obtain⟨b,wb,C,rfl,o2⟩:=hR;cbv;refine(BJ (u.mono ((l.trans b).t _))).mono (λv J hR=>?_);obtain⟨c,N,M,rfl,r,-⟩:=hR;cbv;refine(BJ (x.mono (((l.trans b).trans c).t _))).mono (λv K hR=>?_);obtain⟨e,B,P,rfl,s,-⟩:=hR;cbv;refine⟨((l.trans b).trans c).trans e,t,wb,n,a,_,_,_,_,_,_,_,O,l.none C,rfl,o.len,o1.mono (((b.trans c).trans e).t _),?_,o2.mono ((c.trans e).t _),r.mono (e.t _),s,?_⟩
 .rw[kZl];exact p.len
 rw[<-y,kXS];rfl
structure kO(h:ad)(c tb wb ct cw:Nat)(T:List bS)(W:List (eJ×Bool))(H Wt:List bZ)(e:Int):Prop where
 out:∃n1 n2 b3 n3 c3 b4 n4 c4 o,h c=some (.cells #[.slice (zsA tb) n1 ct,.slice (zsA wb) n2 cw,.slice b3 n3 c3,.slice b4 n4 c4,.zU o,.int .i32 0,.zU 0,.zI e] 148 (0,0))/\
  ((o=0/\e=0)\/(o=1/\e≠0))/\
  n1=T.length/\dt 61 bT h tb ct T/\n2=W.length/\dt 79 cu h wb cw W/\Sl 253 bC h (.slice b3 n3 c3) H/\Sl 253 bC h (.slice b4 n4 c4) Wt
theorem kO.mono{c b wb a w:Nat}{T:List bS}{W:List (eJ×Bool)}{H t:List bZ}(q:kO h c b wb a w T W H t e)(hl:Le h h'):kO h' c b wb a w T W H t e:=by obtain⟨u,v,d,x,g,f,y,i,o,j,k,l,m,n,p,r,s⟩:=q.out;exact⟨u,v,d,x,g,f,y,i,o,hl _ _ j,k,l,m.mono (hl.t _),n,p.mono (hl.t _),r.mono (hl.t _),s.mono (hl.t _)⟩
theorem EM{d:DB}{v:Value}(q:fD h v d):
 Ct 38 [v] h (λN h'=>Le h h'/\∃c t wb k m W,N=.zP c/\h c=none/\h t=none/\h wb=none/\c≠t/\c≠wb/\W=(d.ai.map λw=>(w,true))/\k=d.ao.length/\m=W.length/\kO h' c t wb k m d.ao W d.holds d.waits 0):=by
 have M:=q;obtain⟨Q,a,S,R,b,T,f,B,i,g,C,j,ws,rfl,-⟩:=M.out;refine cB fZE Tryz.func38 λA U=>?_;cbv;refine(YG q).mono (λv H hR=>?_);obtain⟨z,t,wb,a,b,f,B,i,g,C,j,W,O,P,rfl,o,p,r,s,D,E,F⟩:=hR;cbv;intro n u y x;have l:Le H u:=zqs x y
 have K:n≠t:=λe=>by
  obtain⟨c,I,-⟩:=p.out
  grind
 have L:n≠wb:=λe=>by
  obtain⟨c,I,-⟩:=s.out
  grind
 have G:=zqt x;have J:kO u n t wb a b d.ao W d.holds d.waits 0:=
  ⟨a,b,f,B,i,g,C,j,0,G,.inl ⟨rfl,rfl⟩,o,p.mono (l.t _),r,s.mono (l.t _),D.mono (l.t _),E.mono (l.t _)⟩
 cbv;exact⟨z.trans l,n,t,wb,a,b,W,rfl,z.none y,O,P,K,L,F,o,r,J⟩
theorem av(A:Ar)[h:bM A](b o n:Nat):A .off ⟨b,o,none⟩ n=⟨b,o+n,none⟩:=by rw[h.off];exact cQ b o n
theorem cJs:jJ Tryz.prog 324 Tryz.f324:=⟨Tryz.func324,by kernel_rfl,by kernel_rfl,by kernel_rfl⟩
theorem aQw:jJ Tryz.prog 183 Tryz.f183:=⟨Tryz.func183,by kernel_rfl,by kernel_rfl,by kernel_rfl⟩
theorem aQv:jJ Tryz.prog 373 Tryz.f373:=⟨Tryz.func373,by kernel_rfl,by kernel_rfl,by kernel_rfl⟩
theorem cJp:jJ Tryz.prog 374 Tryz.f374:=⟨Tryz.func374,by kernel_rfl,by kernel_rfl,by kernel_rfl⟩
theorem aQu:jJ Tryz.prog 375 Tryz.f375:=⟨Tryz.func375,by kernel_rfl,by kernel_rfl,by kernel_rfl⟩
theorem cJo:jJ Tryz.prog 376 Tryz.f376:=⟨Tryz.func376,by kernel_rfl,by kernel_rfl,by kernel_rfl⟩
theorem cJn:jJ Tryz.prog 378 Tryz.f378:=⟨Tryz.func378,by kernel_rfl,by kernel_rfl,by kernel_rfl⟩
theorem cJm:jJ Tryz.prog 379 Tryz.f379:=⟨Tryz.func379,by kernel_rfl,by kernel_rfl,by kernel_rfl⟩
structure Up(h:ad)(b o:Nat)(x:Value)(h':ad):Prop where
 out:∃c e,h b=some (.cells c e (0,0))/\h'=bO h b (.cells (c.setIfInBounds o x) e (0,0))
theorem Up.jJd{b:Nat}{x v:Value}(u:Up h b o x h')(q:oJ h ⟨b,o,none⟩ v):oJ h' ⟨b,o,none⟩ x:=by
 obtain⟨c,e,d,rfl⟩:=u.out;obtain⟨-,c',f,a,g⟩:=q.out;simp only at a;rw[d]at a;cases a;refine⟨rfl,_,e,ae,?_⟩
 grind
theorem Up.other{b p:Nat}{x v:Value}(u:Up h b o x h')(i:p≠o)(q:oJ h ⟨b,p,none⟩ v):oJ h' ⟨b,p,none⟩ v:=by
 obtain⟨c,e,d,rfl⟩:=u.out;obtain⟨-,c',f,a,g⟩:=q.out;simp only at a;rw[d]at a;cases a;refine⟨rfl,_,e,ae,?_⟩
 grind
theorem aJP{b:Nat}(q:oJ h ⟨b,o,none⟩ (.int .i32 0)):Ct 363 [.pointer (some ⟨b,o,none⟩)] h (λv h'=>v=.tuple #[]/\Up h b o (.int .i32 1) h'):=by
 refine cB eQS Tryz.func363 λA f=>?_;cbv;refine yh aQv .disable (by kernel_rfl) ?_;cbv;rw[av A];refine bQm cJp (by kernel_rfl) q (λc e d e1 a=>?_);have u:Up h b o (.int .i32 1) d:=⟨c,e,e1,a⟩;cbv;refine yh aQu .enable (by kernel_rfl) ?_;cbv;refine FE (t:=142) (by kernel_rfl) (by kernel_rfl) (by kernel_rfl) (u.jJd q) ?_;cbv;refine GN cJo .acquire (by kernel_rfl) ?_;cbv
 grind
theorem Ke{b:Nat}(q:oJ h ⟨b,o,none⟩ (.int .i32 0)):Ct 325 [.pointer (some ⟨b,o,none⟩)] h (λv h'=>v=.tuple #[]/\Up h b o (.int .i32 1) h'):=by
 refine cB eXw Tryz.func325 λA c=>?_;cbv;rw[av A];refine(aJP q).mono (λv a hR=>?_);obtain⟨rfl,u⟩:=hR;cbv
 grind
theorem TU{b:Nat}(q:oJ h ⟨b,o,none⟩ (.int .i32 1)):Ct 364 [.pointer (some ⟨b,o,none⟩)] h (λv h'=>v=.tuple #[]/\Up h b o (.int .i32 0) h'):=by
 refine cB eQR Tryz.func364 λA l=>?_;cbv;rw[av A];obtain⟨-,d,f,j,m⟩:=q.out;refine⟨[.int .i32 1],⟨rfl,rfl,d,f,(0,0),j,λi n=>?_⟩,?_⟩
 .grind
 cbv;refine FE (t:=142) (by kernel_rfl) (by kernel_rfl) (by kernel_rfl) q ?_;cbv;refine GN cJn .releaseMerge (by kernel_rfl) ?_;cbv;refine yh aQv .disable (by kernel_rfl) ?_;cbv;rw[av A];refine KA cJm (by kernel_rfl) q (λc e k e1 g=>?_);have u:Up h b o (.int .i32 0) k:=⟨c,e,e1,g⟩;cbv;refine bm (λa=>?_) (λa=>?_)
 .rw[l.aQ]at a;cases a
 cbv;refine yh aQu .enable (by kernel_rfl) ?_;cbv
 grind
theorem zC{b:Nat}(q:oJ h ⟨b,o,none⟩ (.int .i32 1)):fZK 326 [.pointer (some ⟨b,o,none⟩)] h (λv h'=>v=.tuple #[]/\Up h b o (.int .i32 0) h'):=by
 obtain⟨A,c⟩:=Ar.ex;refine yf A (aj eXv.aw eXv.bz) Tryz.func326 rfl (by kernel_rfl) ?_;cbv;rw[av A];refine(TU q).mono (λv a hR=>?_);obtain⟨rfl,u⟩:=hR;cbv
 grind
theorem oH{b:Nat}{x:Int}(q:oJ h ⟨b,o,none⟩ (.zU x)):Ct 243 [.pointer (some ⟨b,o,none⟩)] h (λv h'=>∃t,v=.bool t/\t=decide (x≠0)/\h'=h):=by refine cB eZR Tryz.func243 λA a=>?_;cbv;rw[av A];refine Nx cJs (by kernel_rfl) q ?_;cbv;refine⟨_,rfl,?_,rfl⟩;rw[a.aQ];simp[aQ];rfl
theorem hKV(h:ad):Ct 184 [.bool true] h (λv h'=>v=.zU 1/\h'=h):=by refine cB eJS Tryz.func184 λA a=>?_;cbv
theorem Cn{b:Nat}{x:Value}(q:oJ h ⟨b,o,none⟩ x):fZK 77 [.pointer (some ⟨b,o,none⟩),.bool true] h (λv h'=>v=.tuple #[]/\Up h b o (.zU 1) h'):=by
 obtain⟨A,f⟩:=Ar.ex;refine yf A (aj fZy.aw fZy.bz) Tryz.func77 rfl (by kernel_rfl) ?_;cbv;refine(hKV h).mono (λv a hR=>?_);obtain⟨rfl,rfl⟩:=hR;cbv;rw[av A];refine CZ aQw (by kernel_rfl) q (λc e a e1 d=>?_);have u:Up _ b o (.zU 1) a:=⟨c,e,e1,d⟩;cbv
 grind
theorem Pb{b:Nat}(q:oJ h ⟨b,o,none⟩ (.zU 0))(k:oJ h ⟨b,o+1,none⟩ (.int .i32 0))
 (H:∀c,Up h b (o+1) (.int .i32 1) c->Ct 303 [.pointer (some a1),.pointer (some a2)] c (λv a=>v=.tuple #[]/\oJ a ⟨b,o,none⟩ (.zU 0)/\oJ a ⟨b,o+1,none⟩ (.int .i32 1)/\Q a)):
 Ct 244 [.pointer (some ⟨b,o,none⟩),.func (.func 303) #[] #[.pointer (some a1),.pointer (some a2)]] h (λv h'=>v=.tuple #[]/\∃a e,Q a/\Up a b o (.zU 1) e/\Up e b (o+1) (.int .i32 0) h'):=by
 obtain⟨A,j⟩:=Ar.ex;refine oE A (aj VX.aw VX.bz) Tryz.func244 rfl (by kernel_rfl) ?_;cbv;rw[av A];refine(Ke k).mono (λv c hR=>?_);obtain⟨rfl,u⟩:=hR;have d:=u.other ip q;cbv;rw[av A];rw[av A];refine(oH d).mono (λv a hR=>?_);obtain⟨t,rfl,f,rfl⟩:=hR;have f:t=false:=by rw[f];rfl
 subst f;cbv;rw[j.not];cbv;rw[av A];refine(H _ u).mono (λv a hR=>?_);obtain⟨rfl,g,i,m⟩:=hR;cbv;refine(Cn g).mono (λv e hR=>?_);obtain⟨-,Z⟩:=hR;have W:=Z.other ip i;cbv;refine(zC W).mono (λv l hR=>?_);obtain⟨-,X⟩:=hR;cbv
 grind
theorem bQA{b:Nat}(q:oJ h ⟨b,o,none⟩ (.zU 0))(g:oJ h ⟨b,o+1,none⟩ (.int .i32 0))
 (H:∀d,Up h b (o+1) (.int .i32 1) d->Ct 303 [.pointer (some a1),.pointer (some a2)] d (λv a=>v=.tuple #[]/\oJ a ⟨b,o,none⟩ (.zU 0)/\oJ a ⟨b,o+1,none⟩ (.int .i32 1)/\Q a)):
 Ct 126 [.pointer (some ⟨b,o,none⟩),.func (.func 303) #[] #[.pointer (some a1),.pointer (some a2)]] h (λv h'=>v=.tuple #[]/\∃a e,Q a/\Up a b o (.zU 1) e/\Up e b (o+1) (.int .i32 0) h'):=by
 refine cB Ek Tryz.func126 λA f=>?_;cbv;rw[av A];refine(oH q).mono (λv a hR=>?_);obtain⟨t,rfl,c,rfl⟩:=hR;have c:t=false:=by rw[c];rfl
 subst c;cbv;rw[f.not];cbv;refine(Pb q g H).mono (λv a hR=>?_);obtain⟨rfl,hR⟩:=hR;cbv
 grind
theorem aQH{b:Nat}(q:oJ h ⟨b,o,none⟩ (.zU 1)):
 Ct 126 [.pointer (some ⟨b,o,none⟩),.func (.func 303) #[] #[.pointer (some a1),.pointer (some a2)]] h (λv h'=>v=.tuple #[]/\h'=h):=by
 refine cB Ek Tryz.func126 λA c=>?_;cbv;rw[av A];refine(oH q).mono (λv d hR=>?_);obtain⟨t,rfl,a,rfl⟩:=hR;have a:t=true:=by rw[a];rfl
 subst a;cbv;rw[c.not];cbv
 grind
theorem LR{b:Nat}(q:oJ h ⟨b,o,none⟩ (.zU 0))(k:oJ h ⟨b,o+1,none⟩ (.int .i32 0))
 (H:∀c,Up h b (o+1) (.int .i32 1) c->Ct 354 [.pointer (some a1)] c (λv a=>v=.tuple #[]/\oJ a ⟨b,o,none⟩ (.zU 0)/\oJ a ⟨b,o+1,none⟩ (.int .i32 1)/\Q a)):
 Ct 244 [.pointer (some ⟨b,o,none⟩),.func (.func 354) #[.pointer (some a1)] #[]] h (λv h'=>v=.tuple #[]/\∃a e,Q a/\Up a b o (.zU 1) e/\Up e b (o+1) (.int .i32 0) h'):=by
 obtain⟨A,j⟩:=Ar.ex;refine oE A (aj VX.aw VX.bz) Tryz.func244 rfl (by kernel_rfl) ?_;cbv;rw[av A];refine(Ke k).mono (λv c hR=>?_);obtain⟨rfl,u⟩:=hR;have d:=u.other ip q;cbv;rw[av A];rw[av A];refine(oH d).mono (λv a hR=>?_);obtain⟨t,rfl,f,rfl⟩:=hR;have f:t=false:=by rw[f];rfl
 subst f;cbv;rw[j.not];cbv;rw[av A];refine(H _ u).mono (λv a hR=>?_);obtain⟨rfl,g,i,m⟩:=hR;cbv;refine(Cn g).mono (λv e hR=>?_);obtain⟨-,Z⟩:=hR;have W:=Z.other ip i;cbv;refine(zC W).mono (λv l hR=>?_);obtain⟨-,X⟩:=hR;cbv
 grind
theorem aQG{b:Nat}(q:oJ h ⟨b,o,none⟩ (.zU 0))(g:oJ h ⟨b,o+1,none⟩ (.int .i32 0))
 (H:∀d,Up h b (o+1) (.int .i32 1) d->Ct 354 [.pointer (some a1)] d (λv a=>v=.tuple #[]/\oJ a ⟨b,o,none⟩ (.zU 0)/\oJ a ⟨b,o+1,none⟩ (.int .i32 1)/\Q a)):
 Ct 126 [.pointer (some ⟨b,o,none⟩),.func (.func 354) #[.pointer (some a1)] #[]] h (λv h'=>v=.tuple #[]/\∃a e,Q a/\Up a b o (.zU 1) e/\Up e b (o+1) (.int .i32 0) h'):=by
 refine cB Ek Tryz.func126 λA f=>?_;cbv;rw[av A];refine(oH q).mono (λv a hR=>?_);obtain⟨t,rfl,c,rfl⟩:=hR;have c:t=false:=by rw[c];rfl
 subst c;cbv;rw[f.not];cbv;refine(LR q g H).mono (λv a hR=>?_);obtain⟨rfl,hR⟩:=hR;cbv
 grind
theorem Vy{b:Nat}(q:oJ h ⟨b,o,none⟩ (.zU 1)):
 Ct 126 [.pointer (some ⟨b,o,none⟩),.func (.func 354) #[.pointer (some a1)] #[]] h (λv h'=>v=.tuple #[]/\h'=h):=by
 refine cB Ek Tryz.func126 λA c=>?_;cbv;rw[av A];refine(oH q).mono (λv d hR=>?_);obtain⟨t,rfl,a,rfl⟩:=hR;have a:t=true:=by rw[a];rfl
 subst a;cbv;rw[c.not];cbv
 grind
theorem cJi{a b c:Nat}{x:Int}{t j e1 e:Nat}{s1 s2 s3 s o1 o2 o y:Value}(d:h a=some (.cells #[.zI x] t (e1,e)))(g:h b=some (.cells #[.zP c] j (0,0)))
 (f:h c=some (.cells #[s1,s2,s3,s,o1,o2,o,y] 148 (0,0))):
 Ct 303 [.zP a,.zP b] h (λv h'=>v=.tuple #[]/\h'=bO h c (.cells #[s1,s2,s3,s,o1,o2,o,.zI x] 148 (0,0))):=by
 refine cB eXO Tryz.func303 λA k=>?_;cbv;refine cy g ?_;cbv;refine cy d ?_;cbv;rw[av A];refine jE f io (λh' i=>?_);cbv;exact⟨rfl,i⟩
theorem Up.exp{b e:Nat}{x:Value}(u:Up h b o x h')(g:h b=zcL e c):h'=bO h b (.cells (c.set o x).toArray e (0,0)):=by
 obtain⟨c',a,d,rfl⟩:=u.out
 grind
theorem cJ{b e:Nat}{x:Value}(g:h b=zcL e c)(hx:c[o]? =some x):oJ h ⟨b,o,none⟩ x:=⟨rfl,_,e,g,iu hx⟩
theorem xj{c t wb i w:Nat}{T:List bS}{W:List (eJ×Bool)}{H G:List bZ}{x:Int}(q:kO h c t wb i w T W H G e)(ht:c≠t)(hw:c≠wb):
 Ct 209 [.zP c,.zI x] h (λv h'=>v=.tuple #[]/\Kp [c] h h'/\kO h' c t wb i w T W H G (if e=0 then x else e)):=by
 obtain⟨C,D,n,E,s,r,F,u,o,R,V,q1,q2,q3,q4,q5,q6⟩:=q.out;refine cB eJv Tryz.func209 λA N=>?_;cbv;intro p M zT e1;cbv;intro g b O I;have a:Le h M:=zqs e1 zT
 have l:Le M b:=zqs I O
 have L:b g=some (.cells #[.zI x] 33 (0,0)):=by rw[I];exact ae
 have K:b p=some (.cells #[.zP c] 134 (0,0)):=l _ _ (by rw[e1];exact ae);have q':=q.mono (a.trans l);have d:=(a.trans l) _ _ R;have U:p≠c:=λe=>gg
 have J:g≠c:=λe=>gg
 cbv;refine cy L ?_;cbv;refine bm (λf=>?_) (λf=>?_)
 .have hx:x≠0:=by intro e;rw[N.aQ,e]at f;cases f
  clear f;cbv;refine cy K ?_;cbv;rw[av A];rcases V with⟨rfl,rfl⟩|⟨rfl,he⟩
  .refine(bQA (a1:=⟨g,0,none⟩) (a2:=⟨p,0,none⟩) (Q:=λY=>Y=bO b c (.cells #[.slice (zsA t) C i,.slice (zsA wb) D w,.slice n E s,.slice r F u,.zU 0,.int .i32 1,.zU 0,.zI x] 148 (0,0)))
    (cJ d rfl) (cJ d rfl) (λz hu=>?_)).mono (λv m hR=>?_)
   .have j:=hu.exp d;have B:z g=some (.cells #[.zI x] 33 (0,0)):=by rw[j,cH J];exact L
    have X:z p=some (.cells #[.zP c] 134 (0,0)):=by rw[j,cH U];exact K
    have Z:z c=zcL 148 [.slice (zsA t) C i,.slice (zsA wb) D w,.slice n E s,.slice r F u,.zU 0,.int .i32 1,.zU 0,.zI 0]:=by rw[j];exact ae
    refine(cJi B X Z).mono (λv m hR=>?_);obtain⟨rfl,rfl⟩:=hR;exact⟨rfl,cJ ae rfl,cJ ae rfl,by rw[j,eI]⟩
   obtain⟨rfl,h5,h6,rfl,u5,u6⟩:=hR;have y:=u5.exp ae;rw[eI]at y;have P:=zqt y;have k:=u6.exp P;rw[y,eI]at k;cbv;have kp:Kp [c] b m:=by rw[k];exact Kp.set io
   have lt:∀tys,148∉tys->cX tys b m:=λtys S=>by rw[k];exact cX.set d S
   refine⟨rfl,((a.trans l).kp _).trans kp,C,D,n,E,s,r,F,u,1,?_,.inr ⟨rfl,?_⟩,q1,?_,q3,?_,?_,?_⟩
   .rw[k];exact ae
   .exact hx
   .exact q2.mono (((a.trans l).t _).trans (lt _ dl))
   .exact q4.mono (((a.trans l).t _).trans (lt _ dl))
   .exact q5.mono (((a.trans l).t _).trans (lt _ dl))
   exact q6.mono (((a.trans l).t _).trans (lt _ dl))
  refine(aQH (a1:=⟨g,0,none⟩) (a2:=⟨p,0,none⟩) (cJ d rfl)).mono (λv m hR=>?_);obtain⟨rfl,rfl⟩:=hR;cbv;refine⟨rfl,(a.trans l).kp _,?_⟩
  grind
 have hx:x=0:=by rw[N.aQ]at f;simpa[aQ]using f
 cbv;refine⟨rfl,(a.trans l).kp _,?_⟩
 grind
def ma:Sh ByteArray where
 n:=1
 R _ cs v:=cs=[.string v]
 len:=gg
 one:=by rintro h cs x rfl;rfl
 tys:=[]
 mono:=λ_ q=>q
def jF:List ByteArray:=[⟨#[97,110,100]⟩,⟨#[98,101,103,105,110]⟩,⟨#[98,111,111,108]⟩,⟨#[98,121]⟩,⟨#[99,111,109,109,105,116]⟩,⟨#[99,111,117,110,116]⟩,⟨#[99,114,101,97,116,101]⟩,⟨#[100,101,108,101,116,101]⟩,⟨#[100,101,115,99]⟩,⟨#[100,114,111,112]⟩,⟨#[102,97,108,115,101]⟩,⟨#[102,114,111,109]⟩,⟨#[103,114,111,117,112]⟩,⟨#[105,110,115,101,114,116]⟩,⟨#[105,110,116]⟩,⟨#[105,110,116,111]⟩,⟨#[105,115]⟩,⟨#[106,111,105,110]⟩,⟨#[107,101,121]⟩,⟨#[108,105,109,105,116]⟩,⟨#[109,97,120]⟩,⟨#[109,105,110]⟩,⟨#[110,111,116]⟩,⟨#[110,117,108,108]⟩,⟨#[111,110]⟩,⟨#[111,110,108,121]⟩,⟨#[111,114]⟩,⟨#[111,114,100,101,114]⟩,⟨#[112,114,105,109,97,114,121]⟩,⟨#[114,111,108,108,98,97,99,107]⟩,⟨#[115,97,118,101,112,111,105,110,116]⟩,⟨#[115,101,108,101,99,116]⟩,⟨#[115,101,116]⟩,⟨#[115,117,109]⟩,⟨#[116,97,98,108,101]⟩,⟨#[116,101,120,116]⟩,⟨#[116,111]⟩,⟨#[116,114,117,101]⟩,⟨#[117,112,100,97,116,101]⟩,⟨#[118,97,108,117,101,115]⟩,⟨#[119,104,101,114,101]⟩]
theorem MH:jF.Nodup:=dl
theorem aJU(h:ad):Ct 371 [] h (λv h'=>Le h h'/\∃c,v=.slice (zsA c) 41 41/\Sl 9 ma h' v jF):=by
 refine cB eQK Tryz.func371 λA d=>?_;cbv;intro n a b e1;have g:a n=zcL 9 (jF.map Value.string):=by rw[e1];exact ae
 have r:Sx.Rows ma a (jF.map Value.string) 0 jF:=by
  refine⟨dl,λi x hx=>?_⟩;have Z:=(HH.1 hx).1;show List.take 1 (List.drop (0+i*1) _)=_;rw[kJe,vi,kQP (iu Z)]
  grind
 have s:Sl 9 ma a (.slice (zsA n) 41 41) jF:=Sl.fresh (xs:=jF) g r dl dl;have hl:Le h a:=zqs e1 b
 clear g r e1;cbv;exact⟨hl,n,rfl,s⟩
theorem bKb:Tryz.prog.underlying 453=some (.map 9 4):=by kernel_rfl
theorem u9:Tryz.prog.underlying 9=some .string:=by kernel_rfl
def Ch(l:List ByteArray):List (Value×Value):=l.map λw=>(.string w,.bool true)
theorem Kp.new{bs:List Nat}{a c:ad}{m:Nat}(x:Kp bs h a)(f:h m=none)(y:Kp (m::bs) a c):Kp bs h c:=λb o q d=>
 y b o (x b o q d) (by
  intro e
  grind)
theorem aJt{s:Nat}{o1 o2 o W:Value}(d:h s=some (.cells #[o1,o2,o,W] 455 (0,0))):
 Ct 354 [.zP s] h (λv h'=>v=.tuple #[]/\Kp [s] h h'/\∃m,h m=none/\h' s=some (.cells #[o1,o2,o,.map (some m)] 455 (0,0))/\Mp h' m .string (Ch jF)):=by
 refine cB eQY Tryz.func354 λA hA=>?_;cbv;intro m l t e1;have F:Le h l:=zqs e1 t
 have V:m≠s:=λe=>gg
 have k:Mp l m .string []:=Mp.new (by rw[e1];exact ae);cbv;rw[av A];refine jE (F _ _ d) io (λq y=>?_);have D:Kp [s] l q:=by rw[y];exact Kp.set io
 have I:q s=some (.cells #[o1,o2,o,.map (some m)] 455 (0,0)):=by rw[y];exact ae
 have P:=k.kp D (iu V);cbv;refine(aJU q).mono (λv K hR=>?_);obtain⟨u,Y,rfl,Q⟩:=hR;have f:=P.kp (u.kp []) io;have S:Kp [s] h K:=((F.kp _).trans D).trans (u.kp _);have J:=u _ _ I;have B:jF.length=41:=rfl;cbv;refine ba.gz (G:=Int) (λz=>[(10,.v (.zI z))]) (λ_=>[]) (λn z h'=>∃i:Nat,bg z i/\n=41-i/\i<=41/\Kp [s] h h'/\h' s=some (.cells #[o1,o2,o,.map (some m)] 455 (0,0))/\Mp h' m .string (Ch (jF.take i))/\Sl 9 ma h' (.slice (zsA Y) 41 41) jF) 41 0 ⟨0,⟨rfl⟩,rfl,dl,S,J,f,Q⟩ ?_
 intro n z h' N;cbv;obtain⟨i,a,hn,hi,C,g,Z,U⟩:=N;refine bm (λc=>?_) (λc=>?_)
 .have H:=a.lt (A:=A) (len:=41) c;clear c;cbv;obtain⟨x,hx⟩:=ay (xs:=jF) (i:=i) gg;refine⟨⟨rfl,a.ix H⟩,?_⟩;cbv;refine U.load hx a.eq (λcs r=>?_);have r:cs=[.string x]:=r;subst r;cbv;rw[av A];refine cy g ?_;cbv;refine JO bKb u9 Z (key:=.string x) True.intro ?_ (λh4 X E t4=>?_)
  .intro p O e;obtain⟨w,R,rfl⟩:=kZd.1 O;cases e;obtain⟨j,b⟩:=kXT R;rw[kZo]at b;split at b
   .rename_i T;have L:=HH.1 b;have M:=HH.1 hx;have:=kJJ.1 MH j i L.1 M.1 T
    grind
   cases b
  cbv;refine zqn (41-(i+1)) _ ip ⟨i+1,a.succ (A:=A),rfl,ip,Kp.new C t (E.sub io),E _ _ g (by simpa using λe=>V (Eq.symm e)),?_,U.mono (t4 _)⟩
  rw[kJG,hx];simpa[Ch]using X
 have mw:=a.ge (A:=A) (len:=41) c;cbv;have:i=41:=ip
 subst this;exact⟨rfl,C,m,t,g,Z⟩
end Go.S
