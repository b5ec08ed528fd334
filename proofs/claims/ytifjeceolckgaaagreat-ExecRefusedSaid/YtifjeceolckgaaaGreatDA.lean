import Derived.Test.YtifjeceolckgaaaGreatTab
import Derived.Test.YtifjeceolckgaaaGreatRd
set_option linter.all false
set_option maxRecDepth 100000
namespace Go.S
open Go.Sx Go.Proofs
variable {a1 a2:Addr}{e:Int}{c:List Value}{cap o:Nat}{b:Option Addr}{a x:Value}{h h':ad}{Q:ad->Prop}
abbrev Ct(f:FuncId)(args:List Value)(h:ad)(R:Value->ad->Prop):Prop:=aQI (λ_=>Tryz.prog) f args h R
abbrev gZt(f:FuncId)(args:List Value)(h:ad)(R:Value->ad->Prop):Prop:=aQa (λ_=>Tryz.prog) f args h R
structure cO where
 k:Int
 n:Int
 s:ByteArray
def bq:Sh cO where
 n:=3
 R _ cs v:=cs=[.int .i64 v.k,.int .i64 v.n,.string v.s]
 len:=by rintro h cs x rfl;rfl
 one:=by rintro h cs x rfl;rfl
 tys:=[]
 mono:=λ_ q=>q
structure cK where
 name:ByteArray
 kind:Int
 null:Bool
def bI:Sh cK where
 n:=3
 R _ cs v:=cs=[.string v.name,.int .i64 v.kind,.bool v.null]
 len:=by rintro h cs x rfl;rfl
 one:=by rintro h cs x rfl;rfl
 tys:=[]
 mono:=λ_ q=>q
structure oy where
 name:ByteArray
 at_:Int
def dN:Sh oy where
 n:=2
 R _ cs v:=cs=[.string v.name,.int .i64 v.at_]
 len:=by rintro h cs x rfl;rfl
 one:=by rintro h cs x rfl;rfl
 tys:=[]
 mono:=λ_ q=>q
structure cg where
 s:Int
 table:ByteArray
 x:Bool
def bG:Sh cg where
 n:=3
 R _ cs v:=cs=[.int .i64 v.s,.string v.table,.bool v.x]
 len:=by rintro h cs x rfl;rfl
 one:=by rintro h cs x rfl;rfl
 tys:=[]
 mono:=λ_ q=>q
abbrev Row:=List cO
abbrev aD:Sh Row:=mW 86 bq
structure FR where
 name:ByteArray
 cols:List cK
 key:Int
 only:Bool
structure cW where
 S:FR
 rows:List Row
def ef:Sh cW where
 n:=5
 R h cs t:=∃b1 n1 c1 b2 n2 c2,cs=[.string t.S.name,.slice b1 n1 c1,.int .i64 t.S.key,.bool t.S.only,.slice b2 n2 c2]/\Sl 155 bI h (.slice b1 n1 c1) t.S.cols/\Sl 84 aD h (.slice b2 n2 c2) t.rows
 len:=by rintro h cs x ⟨_,_,_,_,_,_,rfl,-⟩;rfl
 one:=by rintro h cs x ⟨_,_,_,_,_,_,rfl,-⟩;rfl
 tys:=[155,84,86]
 mono:=by rintro h h' cs x hl ⟨b1,n1,c1,b2,n2,c2,rfl,q1,q2⟩;exact⟨b1,n1,c1,b2,n2,c2,rfl,q1.mono (hl.sub),q2.mono (hl.sub)⟩
structure dV where
 table:ByteArray
 op:Int
 row:Row
def dI:Sh dV where
 n:=3
 R h cs t:=∃b n c,cs=[.string t.table,.int .i64 t.op,.slice b n c]/\Sl 86 bq h (.slice b n c) t.row
 len:=by rintro h cs x ⟨_,_,_,rfl,-⟩;rfl
 one:=by rintro h cs x ⟨_,_,_,rfl,-⟩;rfl
 tys:=[86]
 mono:=by rintro h h' cs x hl ⟨b,n,c,rfl,q⟩;exact⟨b,n,c,rfl,q.mono (hl.sub)⟩
structure fJ where
 s:Int
 log:List dV
 marks:List oy
def cX:Sh (fJ×Bool)where
 n:=3
 R h cs t:=∃b1 n1 c1 b2 n2 c2,cs=[.int .i64 t.1.s,.slice b1 n1 c1,.slice b2 n2 c2]/\Sl 137 dI h (.slice b1 n1 c1) t.1.log/\Sl 150 dN h (.slice b2 n2 c2) t.1.marks/\(t.2=true->c1=n1)
 len:=by rintro h cs x ⟨_,_,_,_,_,_,rfl,-⟩;rfl
 one:=by rintro h cs x ⟨_,_,_,_,_,_,rfl,-⟩;rfl
 tys:=[137,86,150]
 mono:=by rintro h h' cs x hl ⟨b1,n1,c1,b2,n2,c2,rfl,q1,q2,q3⟩;exact⟨b1,n1,c1,b2,n2,c2,rfl,q1.mono (hl.sub),q2.mono (hl.sub),q3⟩
structure DB where
 az:List cW
 aq:List fJ
 holds:List cg
 waits:List cg
structure ik(h:ad)(v:Value)(d:DB):Prop where
 out:∃b1 n1 c1 b2 n2 c2 b3 n3 c3 b4 n4 c4 ws,v=.agg #[.slice b1 n1 c1,.slice b2 n2 c2,.slice b3 n3 c3,.slice b4 n4 c4]/\
  Sl 51 ef h (.slice b1 n1 c1) d.az/\Sl 55 cX h (.slice b2 n2 c2) ws/\Sl 201 bG h (.slice b3 n3 c3) d.holds/\Sl 201 bG h (.slice b4 n4 c4) d.waits/\ws.map (·.1)=d.aq
theorem Dj{xs:List cg}{len:Nat}(q:Sl 201 bG h (.slice b len cap) xs):
 Ct 110 [.slice b len cap] h (λv h'=>Le h h'/\∃d u,v=.slice d len u/\Sl 201 bG h' v xs/\∀oB o s,d=some ⟨oB,o,s⟩->h oB=none):=by
 refine mQx gZe Tryz.func110 λA k=>?_;cbv;refine bh (λa=>?_) (λa=>?_)
 .rw[k.HO]at a;cbv;have m:b=none:=by cases b<;>simp at a |-
  subst m;have p:len=0:=by
   rcases mXI len with e|e
   .exact e
   have:=q.aT e;cases this
  have:=q.len;have hx:xs=[]:=mXd (by omega);subst hx p;exact⟨Le.refl _,none,0,rfl,Sl.nil,λ_ _ _ e=>(by cases e)⟩
 cbv;intro x j n W;have l:Le h j:=by rw[W];exact Le.set n
 cbv;refine dz (q.mono (l.t _)) (by simp[bG]) rfl (by decide) (λr=>?_) (λy c w f t g i=>?_)
 .cbv;have:=q.len;have hx:xs=[]:=mXd (by omega);subst hx r;exact⟨l,_,_,rfl,Sl.nil,λ_ _ _ e=>(by cases e;exact n)⟩
 cbv;exact⟨l.trans g,_,_,rfl,i.sl q.len,λ_ _ _ e=>(by cases e;exact l.none f)⟩
theorem QT{xs:List cK}{len:Nat}(q:Sl 155 bI h (.slice b len cap) xs):
 Ct 155 [.slice b len cap] h (λv h'=>Le h h'/\∃d u,v=.slice d len u/\Sl 155 bI h' v xs/\∀oB o s,d=some ⟨oB,o,s⟩->h oB=none):=by
 refine mQx gXE Tryz.func155 λA k=>?_;cbv;refine bh (λa=>?_) (λa=>?_)
 .rw[k.HO]at a;cbv;have m:b=none:=by cases b<;>simp at a |-
  subst m;have p:len=0:=by
   rcases mXI len with e|e
   .exact e
   have:=q.aT e;cases this
  have:=q.len;have hx:xs=[]:=mXd (by omega);subst hx p;exact⟨Le.refl _,none,0,rfl,Sl.nil,λ_ _ _ e=>(by cases e)⟩
 cbv;intro x j n W;have l:Le h j:=by rw[W];exact Le.set n
 cbv;refine dz (q.mono (l.t _)) (by simp[bI]) rfl (by decide) (λr=>?_) (λy c w f t g i=>?_)
 .cbv;have:=q.len;have hx:xs=[]:=mXd (by omega);subst hx r;exact⟨l,_,_,rfl,Sl.nil,λ_ _ _ e=>(by cases e;exact n)⟩
 cbv;exact⟨l.trans g,_,_,rfl,i.sl q.len,λ_ _ _ e=>(by cases e;exact l.none f)⟩
theorem II{xs:List cO}{len:Nat}(q:Sl 86 bq h (.slice b len cap) xs):
 Ct 75 [.slice b len cap] h (λv h'=>Le h h'/\∃d u,v=.slice d len u/\Sl 86 bq h' v xs/\∀oB o s,d=some ⟨oB,o,s⟩->h oB=none):=by
 refine mQx jKh Tryz.func75 λA k=>?_;cbv;refine bh (λa=>?_) (λa=>?_)
 .rw[k.HO]at a;cbv;have m:b=none:=by cases b<;>simp at a |-
  subst m;have p:len=0:=by
   rcases mXI len with e|e
   .exact e
   have:=q.aT e;cases this
  have:=q.len;have hx:xs=[]:=mXd (by omega);subst hx p;exact⟨Le.refl _,none,0,rfl,Sl.nil,λ_ _ _ e=>(by cases e)⟩
 cbv;intro x j n W;have l:Le h j:=by rw[W];exact Le.set n
 cbv;refine dz (q.mono (l.t _)) (by simp[bq]) rfl (by decide) (λr=>?_) (λy c w f t g i=>?_)
 .cbv;have:=q.len;have hx:xs=[]:=mXd (by omega);subst hx r;exact⟨l,_,_,rfl,Sl.nil,λ_ _ _ e=>(by cases e;exact n)⟩
 cbv;exact⟨l.trans g,_,_,rfl,i.sl q.len,λ_ _ _ e=>(by cases e;exact l.none f)⟩
theorem bXg{xs:List oy}{len:Nat}(q:Sl 150 dN h (.slice b len cap) xs):
 Ct 205 [.slice b len cap] h (λv h'=>Le h h'/\∃d u,v=.slice d len u/\Sl 150 dN h' v xs/\∀oB o s,d=some ⟨oB,o,s⟩->h oB=none):=by
 refine mQx nXL Tryz.func205 λA k=>?_;cbv;refine bh (λa=>?_) (λa=>?_)
 .rw[k.HO]at a;cbv;have m:b=none:=by cases b<;>simp at a |-
  subst m;have p:len=0:=by
   rcases mXI len with e|e
   .exact e
   have:=q.aT e;cases this
  have:=q.len;have hx:xs=[]:=mXd (by omega);subst hx p;exact⟨Le.refl _,none,0,rfl,Sl.nil,λ_ _ _ e=>(by cases e)⟩
 cbv;intro x j n W;have l:Le h j:=by rw[W];exact Le.set n
 cbv;refine dz (q.mono (l.t _)) (by simp[dN]) rfl (by decide) (λr=>?_) (λy c w f t g i=>?_)
 .cbv;have:=q.len;have hx:xs=[]:=mXd (by omega);subst hx r;exact⟨l,_,_,rfl,Sl.nil,λ_ _ _ e=>(by cases e;exact n)⟩
 cbv;exact⟨l.trans g,_,_,rfl,i.sl q.len,λ_ _ _ e=>(by cases e;exact l.none f)⟩
theorem aZF{r:Row}{len:Nat}(q:Sl 86 bq h (.slice b len cap) r):
 Ct 113 [.slice b len cap] h (λv h'=>Le h h'/\∃a j,v=.slice a len j/\Sl 86 bq h' v r):=by
 refine mQx gZb Tryz.func113 λA d=>?_;cbv;refine(II q).mono (λv h'=>?_);rintro⟨l,a,j,rfl,c,-⟩;cbv;exact⟨l,_,_,rfl,c⟩
theorem cXM{xs:List Row}{len:Nat}(q:Sl 84 aD h (.slice b len cap) xs):
 Ct 204 [.slice b len cap,.func (.func 113) #[] #[]] h (λv h'=>Le h h'/\∃c,h c=none/\v=.slice (some ⟨c,0,none⟩) len len/\fX 84 aD h' c len xs):=by
 have l:=q.len;obtain⟨Y,K⟩:=q.bound;refine mQx gQS Tryz.func204 λA D=>?_;cbv;refine nJ (s:=aD) rfl (by omega) (by decide) (λc t g e o=>?_);cbv;refine aX.go (G:=Int) (λz=>[(13,.v (.int .i64 z))]) (λ_=>[]) (λn z h'=>∃i:Nat,aS z i/\n=len-i/\i<=len/\Le h h'/\fX 84 aD h' c len (xs.take i)) len 0 (by constructor<;>cbv) ⟨0,⟨rfl⟩,by omega,by omega,e,o⟩ ?_
 intro n z h' I;cbv;obtain⟨i,a,H,F,V,w⟩:=I;refine bh (λd=>?_) (λd=>?_)
 .have P:=a.lt d;clear d;cbv;obtain⟨x,hx⟩:=mQA xs i;refine⟨⟨q.aT,a.ix P⟩,?_⟩;cbv;refine(q.mono (V.t _)).load hx a.eq (λcs y=>?_);obtain⟨v,rfl,f⟩:=y;obtain⟨j,L,p,rfl⟩:=f.form;cbv;refine(aZF f).mono (λO u hR=>?_);obtain⟨E,m,r,rfl,C⟩:=hR;cbv;refine⟨⟨rfl,a.ix P⟩,?_⟩;cbv;refine(w.mono (E.t _)).store (by decide) (i:=i) (by simp;omega) (by omega) (by omega) a.eq rfl (x:=x) ⟨_,rfl,C⟩ (λB k J N=>?_);cbv;refine⟨len-(i+1),_,by omega,by constructor<;>cbv,i+1,a.succ (A:=A),rfl,by omega,?_,?_⟩
  .exact(V.trans E).dJ (by simpa using g) k
  rw[if_neg (by simp;omega)]at N;rw[mXt,hx];exact N
 have M:=a.ge d;cbv;have:i=len:=by omega
 subst this;refine⟨V,c,g,rfl,?_⟩;rw[l,mXL]at w;rw[l];exact w
theorem cJz{t:cW}{c b e f:Value}(q:ef.R h [c,a,b,e,f] t):
 Ct 101 [.agg #[c,a,b,e,f]] h (λv h'=>Le h h'/\∃d0 g i j k,v=.agg #[d0,g,i,j,k]/\ef.R h' [d0,g,i,j,k] t):=by
 obtain⟨s,D,B,u,F,C,n,p,m⟩:=q;cases n;refine mQx gZl Tryz.func101 λA y=>?_;cbv;refine(QT p).mono (λv w hR=>?_);obtain⟨l,r,z,rfl,d,-⟩:=hR;cbv;refine(cXM (m.mono (l.t _))).mono (λv x hR=>?_);obtain⟨E,G,Y,rfl,o⟩:=hR;cbv;exact⟨l.trans E,_,_,_,_,_,rfl,_,_,_,_,_,_,rfl,d.mono (E.t _),o.sl m.len⟩
theorem WI{xs:List cW}{len:Nat}(q:Sl 51 ef h (.slice b len cap) xs):
 Ct 107 [.slice b len cap,.func (.func 101) #[] #[]] h (λv h'=>Le h h'/\∃c,h c=none/\v=.slice (some ⟨c,0,none⟩) len len/\fX 51 ef h' c len xs):=by
 have l:=q.len;obtain⟨X,U⟩:=q.bound;refine mQx gZh Tryz.func107 λA Q=>?_;cbv;refine nJ (s:=ef) rfl (by omega) (by decide) (λc L Y g B=>?_);cbv;refine aX.go (G:=Int) (λz=>[(13,.v (.int .i64 z))]) (λ_=>[]) (λn z h'=>∃i:Nat,aS z i/\n=len-i/\i<=len/\Le h h'/\fX 51 ef h' c len (xs.take i)) len 0 (by constructor<;>cbv) ⟨0,⟨rfl⟩,by omega,by omega,g,B⟩ ?_
 intro n z h' I;cbv;obtain⟨i,a,S,R,V,w⟩:=I;refine bh (λd=>?_) (λd=>?_)
 .have P:=a.lt d;clear d;cbv;obtain⟨x,hx⟩:=mQA xs i;refine⟨⟨q.aT,a.ix P⟩,?_⟩;cbv;refine(q.mono (V.t _)).load hx a.eq (λcs y=>?_);obtain⟨e,m,k,f,o,j,rfl,p,r⟩:=y;have D:ef.R h' _ x:=⟨e,m,k,f,o,j,rfl,p,r⟩;cbv;refine(cJz D).mono (λZ M hR=>?_);obtain⟨E,d0,F,H,J,K,rfl,C⟩:=hR;obtain⟨e,m,k,f,o,j,t,p,r⟩:=C;cases t;cbv;refine⟨⟨rfl,a.ix P⟩,?_⟩;cbv;refine(w.mono (E.t _)).store (by decide) (i:=i) (by simp;omega) (by omega) (by omega) a.eq rfl (x:=x) ⟨e,m,k,f,o,j,rfl,p,r⟩ (λO u T N=>?_);cbv;refine⟨len-(i+1),_,by omega,by constructor<;>cbv,i+1,a.succ (A:=A),rfl,by omega,?_,?_⟩
  .exact(V.trans E).dJ (by simpa using Y) u
  rw[if_neg (by simp;omega)]at N;rw[mXt,hx];exact N
 have W:=a.ge d;cbv;have:i=len:=by omega
 subst this;refine⟨V,c,Y,rfl,?_⟩;rw[l,mXL]at w;rw[l];exact w
theorem eKC{t:dV}{c b:Value}(q:dI.R h [c,a,b] t):
 Ct 44 [.agg #[c,a,b]] h (λv h'=>Le h h'/\∃d0 e f,v=.agg #[d0,e,f]/\dI.R h' [d0,e,f] t):=by
 obtain⟨k,p,o,g,i⟩:=q;cases g;refine mQx hQh Tryz.func44 λA n=>?_;cbv;refine(aZF i).mono (λv m hR=>?_);obtain⟨l,j,u,rfl,d⟩:=hR;cbv;exact⟨l,_,_,_,rfl,_,_,_,rfl,d⟩
theorem Uy{xs:List dV}{len:Nat}(q:Sl 137 dI h (.slice b len cap) xs):
 Ct 43 [.slice b len cap,.func (.func 44) #[] #[]] h (λv h'=>Le h h'/\∃c,h c=none/\v=.slice (some ⟨c,0,none⟩) len len/\fX 137 dI h' c len xs):=by
 have l:=q.len;obtain⟨Q,M⟩:=q.bound;refine mQx jKF Tryz.func43 λA H=>?_;cbv;refine nJ (s:=dI) rfl (by omega) (by decide) (λc B Y f p=>?_);cbv;refine aX.go (G:=Int) (λz=>[(13,.v (.int .i64 z))]) (λ_=>[]) (λn z h'=>∃i:Nat,aS z i/\n=len-i/\i<=len/\Le h h'/\fX 137 dI h' c len (xs.take i)) len 0 (by constructor<;>cbv) ⟨0,⟨rfl⟩,by omega,by omega,f,p⟩ ?_
 intro n z h' I;cbv;obtain⟨i,a,K,J,V,w⟩:=I;refine bh (λd=>?_) (λd=>?_)
 .have P:=a.lt d;clear d;cbv;obtain⟨x,hx⟩:=mQA xs i;refine⟨⟨q.aT,a.ix P⟩,?_⟩;cbv;refine(q.mono (V.t _)).load hx a.eq (λcs y=>?_);obtain⟨e,g,k,rfl,j⟩:=y;have r:dI.R h' _ x:=⟨e,g,k,rfl,j⟩;cbv;refine(eKC r).mono (λR D hR=>?_);obtain⟨E,d0,t,u,rfl,C⟩:=hR;obtain⟨e,g,k,m,j⟩:=C;cases m;cbv;refine⟨⟨rfl,a.ix P⟩,?_⟩;cbv;refine(w.mono (E.t _)).store (by decide) (i:=i) (by simp;omega) (by omega) (by omega) a.eq rfl (x:=x) ⟨e,g,k,rfl,j⟩ (λF o L N=>?_);cbv;refine⟨len-(i+1),_,by omega,by constructor<;>cbv,i+1,a.succ (A:=A),rfl,by omega,?_,?_⟩
  .exact(V.trans E).dJ (by simpa using Y) o
  rw[if_neg (by simp;omega)]at N;rw[mXt,hx];exact N
 have O:=a.ge d;cbv;have:i=len:=by omega
 subst this;refine⟨V,c,Y,rfl,?_⟩;rw[l,mXL]at w;rw[l];exact w
theorem dZu{t:fJ×Bool}{c b:Value}(q:cX.R h [c,a,b] t):
 Ct 109 [.agg #[c,a,b]] h (λv h'=>Le h h'/\∃d0 d e,v=.agg #[d0,d,e]/\cX.R h' [d0,d,e] (t.1,true)):=by
 obtain⟨m,y,w,n,z,x,g,f,i,-⟩:=q;cases g;refine mQx gZf Tryz.func109 λA s=>?_;cbv;refine(Uy f).mono (λv p hR=>?_);obtain⟨l,B,Y,rfl,o⟩:=hR;cbv;refine(bXg (i.mono (l.t _))).mono (λv r hR=>?_);obtain⟨E,j,u,rfl,k,-⟩:=hR;cbv;exact⟨l.trans E,_,_,_,rfl,_,_,_,_,_,_,rfl,(o.sl f.len).mono (E.t _),k,λ_=>rfl⟩
theorem cXN{xs:List (fJ×Bool)}{len:Nat}(q:Sl 55 cX h (.slice b len cap) xs):
 Ct 108 [.slice b len cap,.func (.func 109) #[] #[]] h (λv h'=>Le h h'/\∃c,h c=none/\v=.slice (some ⟨c,0,none⟩) len len/\fX 55 cX h' c len (xs.map λp=>(p.1,true))):=by
 have l:=q.len;obtain⟨X,U⟩:=q.bound;refine mQx gZg Tryz.func108 λA Q=>?_;cbv;refine nJ (s:=cX) rfl (by omega) (by decide) (λc L Y g F=>?_);cbv;refine aX.go (G:=Int) (λz=>[(13,.v (.int .i64 z))]) (λ_=>[]) (λn z h'=>∃i:Nat,aS z i/\n=len-i/\i<=len/\Le h h'/\fX 55 cX h' c len ((xs.take i).map λp=>(p.1,true))) len 0 (by constructor<;>cbv) ⟨0,⟨rfl⟩,by omega,by omega,g,F⟩ ?_
 intro n z h' I;cbv;obtain⟨i,a,S,R,V,w⟩:=I;refine bh (λd=>?_) (λd=>?_)
 .have P:=a.lt d;clear d;cbv;obtain⟨x,hx⟩:=mQA xs i;refine⟨⟨q.aT,a.ix P⟩,?_⟩;cbv;refine(q.mono (V.t _)).load hx a.eq (λcs y=>?_);obtain⟨e,m,k,f,o,j,rfl,r,t,u⟩:=y;have H:cX.R h' _ x:=⟨e,m,k,f,o,j,rfl,r,t,u⟩;cbv;refine(dZu H).mono (λZ M hR=>?_);obtain⟨E,d0,J,K,rfl,C⟩:=hR;obtain⟨e,m,k,f,o,j,B,r,t,u⟩:=C;cases B;cbv;refine⟨⟨rfl,a.ix P⟩,?_⟩;cbv;refine(w.mono (E.t _)).store (by decide) (i:=i) (by simp;omega) (by omega) (by omega) a.eq rfl (x:=(x.1,true)) ⟨e,m,k,f,o,j,rfl,r,t,u⟩ (λO D T N=>?_);cbv;refine⟨len-(i+1),_,by omega,by constructor<;>cbv,i+1,a.succ (A:=A),rfl,by omega,?_,?_⟩
  .exact(V.trans E).dJ (by simpa using Y) D
  rw[if_neg (by simp;omega)]at N;rw[mXt,hx];simpa using N
 have W:=a.ge d;cbv;have:i=len:=by omega
 subst this;refine⟨V,c,Y,rfl,?_⟩;rw[l,mXL]at w;rw[l];exact w
theorem eQC:pV Tryz.prog 285 Tryz.f285:=⟨Tryz.func285,by kernel_rfl,by kernel_rfl,by kernel_rfl⟩
def eC(a b:ByteArray):Int:=Lib.compareBytes a.data.toList b.data.toList
structure aQc(l:List Int)(z:Int)(t:Bool):Prop where
 out:∃i,aS z i/\i=uc l 0 l.length/\t=decide (i<l.length/\l.getD i 0=0)
theorem eQV(a b:ByteArray)(h:ad):Ct 249 [.string a,.string b] h (λv h'=>Le h h'/\∃z,v=.int .i64 z/\z=eC a b):=by refine mQx gQn Tryz.func249 λA d=>?_;cbv;refine cXH eQC (by kernel_rfl) ?_;generalize c:Lib.compareBytes a.data.toList b.data.toList=z;cbv;exact⟨Le.refl _,z,rfl,c.symm⟩
theorem bXf(a b:ByteArray)(h:ad):Ct 201 [.string a,.string b] h (λv h'=>Le h h'/\∃z,v=.int .i64 z/\z=eC a b):=by refine mQx gQV Tryz.func201 λA e=>?_;cbv;refine(eQV a b h).mono (λv d hR=>?_);obtain⟨l,z,rfl,c⟩:=hR;cbv;exact⟨l,z,rfl,c⟩
theorem dQj(a b:ByteArray)(h:ad)(c d e f:Value):Ct 200 [.agg #[.string a,c,d,e,f],.string b] h (λv h'=>Le h h'/\∃z,v=.int .i64 z/\z=eC a b):=by refine mQx Rl Tryz.func200 λA j=>?_;cbv;refine(bXf a b h).mono (λv i hR=>?_);obtain⟨l,z,rfl,g⟩:=hR;cbv;exact⟨l,z,rfl,g⟩
theorem iKd{xs:List cW}{len:Nat}(q:Sl 51 ef h (.slice b len cap) xs)(name:ByteArray):
 Ct 199 [.slice b len cap,.string name,.func (.func 200) #[] #[]] h (λv h'=>Le h h'/\∃(z:Int) (t:Bool),v=.tuple #[.int .i64 z,.bool t]/\aQc (xs.map (λx=>eC x.S.name name)) z t):=by
 have f:=q.len;obtain⟨Y,S⟩:=q.bound;have m:(xs.map (λx=>eC x.S.name name)).length=len:=by simp[f]
 generalize F:xs.map (λx=>eC x.S.name name)=l at m;have u:∀(i:Nat) x,xs[i]? =some x->l[i]? =some ((λx=>eC x.S.name name) x):=λi x hx=>by rw[<-F];simp[hx]
 refine mQx cZS Tryz.func199 λA c=>?_;cbv;refine aX.go (G:=Int×Int) (λg=>[(9,.v (.int .i64 g.1)),(10,.v (.int .i64 g.2))]) (λ_=>[])
  (λn g h'=>∃i j:Nat,aS g.1 i/\aS g.2 j/\n=j-i/\i<=j/\j<=len/\Le h h'/\uc l 0 len=uc l i j) len (0,A .nat len) ⟨?_,?_,?_⟩ ⟨0,len,⟨rfl⟩,⟨by rw[c.nat];rfl⟩,by omega,by omega,by omega,Le.refl _,rfl⟩ ?_
 .cbv
 .cbv
 .cbv
 intro n g h' I;cbv;obtain⟨i,j,a,k,R,H,X,e,K⟩:=I;refine bh (λd=>?_) (λd=>?_)
 .rw[a.iJ (A:=A) k,mQR]at d;cbv;refine⟨by decide,?_⟩;cbv;have p:=a.bKH (A:=A) k (by omega) (by omega);obtain⟨x,hx⟩:=aE (xs:=xs) (i:=(i+j) / 2) (by omega);refine⟨⟨q.aT,p.ix (by omega)⟩,?_⟩;cbv;refine(q.mono (e.t _)).load hx p.eq (λcs y=>?_);obtain⟨B,M,J,C,N,L,rfl,O,P⟩:=y;cbv;refine(dQj x.S.name name _ _ _ _ _).mono (λv D hR=>?_);obtain⟨E,z,rfl,s⟩:=hR;cbv;have r:l.getD ((i+j) / 2) 0=z:=by rw[mXE,u _ _ hx,s];rfl
  have U:=K;rw[uc.eq_1 l i j,if_pos d,r]at U;refine bh (λo=>?_) (λo=>?_)
  .rw[c.aI]at o;have Q:z<0:=mQL o;rw[if_pos Q]at U;clear o Q;cbv;refine⟨j-((i+j) / 2+1),(_,g.2),by omega,by constructor<;>cbv,(i+j) / 2+1,j,p.succ (A:=A),k,rfl,by omega,X,e.trans E,U⟩
  rw[c.aI]at o;have Q:¬z<0:=mQO o;rw[if_neg Q]at U;clear o Q;cbv;refine⟨(i+j) / 2-i,(g.1,A .conv .i64 (A .bB .shr .u64 (A .conv .u64 (A .bB .add .i64 g.1 g.2)) 1)),by omega,by constructor<;>cbv,i,(i+j) / 2,a,p,rfl,by omega,by omega,e.trans E,U⟩
 rw[a.iJ (A:=A) k,decide_eq_false_iff_not]at d;cbv;have U:=K;rw[uc.eq_1 l i j,if_neg d]at U;have V:=a.iJ (A:=A) (w:=A .nat len) (j:=len) ⟨by rw[c.nat];rfl⟩;refine bh (λo=>?_) (λo=>?_)
 .rw[o];rw[V,mQR]at o;cbv;obtain⟨x,hx⟩:=mQA xs i;refine⟨⟨q.aT,a.ix (by omega)⟩,?_⟩;cbv;refine(q.mono (e.t _)).load hx a.eq (λcs y=>?_);obtain⟨B,M,J,C,N,L,rfl,O,P⟩:=y;cbv;refine(dQj x.S.name name _ _ _ _ _).mono (λv D hR=>?_);obtain⟨E,z,rfl,s⟩:=hR;cbv;refine⟨e.trans E,_,_,rfl,⟨i,a,?_,?_⟩⟩
  .rw[m];exact U.symm
  rw[c.aI];have r:l.getD i 0=z:=by rw[mXE,u _ _ hx,s];rfl
  rw[r,m];simp[aI,o];rfl
 rw[o];rw[V,decide_eq_false_iff_not]at o;cbv;refine⟨e,_,_,rfl,⟨i,a,?_,?_⟩⟩
 .rw[m];exact U.symm
 rw[m];simp[o]
theorem cJA{d:DB}{v:Value}(q:ik h v d):
 Ct 40 [v] h (λE h'=>Le h h'/\∃t b n a g m j i o k s,h t=none/\h b=none/\
  E=.agg #[.slice (some ⟨t,0,none⟩) n n,.slice (some ⟨b,0,none⟩) a a,.slice g m j,.slice i o k]/\
  n=d.az.length/\fX 51 ef h' t n d.az/\a=s.length/\fX 55 cX h' b a s/\Sl 201 bG h' (.slice g m j) d.holds/\Sl 201 bG h' (.slice i o k) d.waits/\s=d.aq.map λw=>(w,true)):=by
 obtain⟨G,n,K,H,a,L,g,m,j,i,o,k,s,rfl,p,r,B,C,D⟩:=q.out;refine mQx jKI Tryz.func40 λA Q=>?_;cbv;refine(WI p).mono (λv M hR=>?_);obtain⟨l,t,F,rfl,o1⟩:=hR;cbv;refine(cXN (r.mono (l.t _))).mono (λv N hR=>?_);obtain⟨c,b,u,rfl,o2⟩:=hR;cbv;refine(Dj (B.mono ((l.trans c).t _))).mono (λv O hR=>?_);obtain⟨e,x,X,rfl,y,-⟩:=hR;cbv;refine(Dj (C.mono (((l.trans c).trans e).t _))).mono (λv P hR=>?_);obtain⟨f,I,J,rfl,z,-⟩:=hR;cbv;refine⟨((l.trans c).trans e).trans f,t,b,n,a,_,_,_,_,_,_,_,F,l.none u,rfl,p.len,o1.mono (((c.trans e).trans f).t _),?_,o2.mono ((e.trans f).t _),y.mono (f.t _),z,?_⟩
 .rw[mQN];exact r.len
 rw[<-D,mXS];rfl
structure lA(h:ad)(c tb wb ct cw:Nat)(T:List cW)(W:List (fJ×Bool))(H Wt:List cg)(e:Int):Prop where
 out:∃n1 n2 b3 n3 c3 b4 n4 c4 o,h c=some (.cells #[.slice (some ⟨tb,0,none⟩) n1 ct,.slice (some ⟨wb,0,none⟩) n2 cw,.slice b3 n3 c3,.slice b4 n4 c4,.int .u32 o,.int .i32 0,.int .u32 0,.int .i64 e] 130 (0,0))/\
  ((o=0/\e=0)\/(o=1/\e≠0))/\
  n1=T.length/\fX 51 ef h tb ct T/\n2=W.length/\fX 55 cX h wb cw W/\Sl 201 bG h (.slice b3 n3 c3) H/\Sl 201 bG h (.slice b4 n4 c4) Wt
theorem lA.mono{c b d a w:Nat}{T:List cW}{W:List (fJ×Bool)}{H t:List cg}(q:lA h c b d a w T W H t e)(l:Le h h'):lA h' c b d a w T W H t e:=by obtain⟨x,y,f,z,i,g,A,j,o,k,m,n,p,r,s,u,v⟩:=q.out;exact⟨x,y,f,z,i,g,A,j,o,l _ _ k,m,n,p.mono (l.t _),r,s.mono (l.t _),u.mono (l.t _),v.mono (l.t _)⟩
theorem Nv{d:DB}{v:Value}(q:ik h v d):
 Ct 38 [v] h (λP h'=>Le h h'/\∃c t b p r W,P=.pointer (some ⟨c,0,none⟩)/\h c=none/\h t=none/\h b=none/\c≠t/\c≠b/\W=(d.aq.map λw=>(w,true))/\p=d.az.length/\r=W.length/\lA h' c t b p r d.az W d.holds d.waits 0):=by
 have O:=q;obtain⟨R,g,T,S,i,U,j,D,m,k,E,o,X,rfl,-⟩:=O.out;refine mQx jKK Tryz.func38 λA V=>?_;cbv;refine(cJA q).mono (λv K hR=>?_);obtain⟨C,t,b,g,i,j,D,m,k,E,o,W,Q,F,rfl,s,u,x,y,G,H,I⟩:=hR;cbv;intro n z f B;have l:Le K z:=by rw[B];exact Le.set f
 have M:n≠t:=λe=>by
  obtain⟨c,a,-⟩:=u.out;rw[<-e,f]at a;cases a
 have N:n≠b:=λe=>by
  obtain⟨c,a,-⟩:=y.out;rw[<-e,f]at a;cases a
 have J:=(congrFun B n).trans ae;have L:lA z n t b g i d.az W d.holds d.waits 0:=
  ⟨g,i,j,D,m,k,E,o,0,J,.inl ⟨rfl,rfl⟩,s,u.mono (l.t _),x,y.mono (l.t _),G.mono (l.t _),H.mono (l.t _)⟩
 cbv;exact⟨C.trans l,n,t,b,g,i,W,rfl,C.none f,Q,F,M,N,I,s,x,L⟩
theorem ai(A:Ar)[h:bM A](b o n:Nat):A .off ⟨b,o,none⟩ n=⟨b,o+n,none⟩:=by rw[h.off];exact dF b o n
theorem eQD:pV Tryz.prog 281 Tryz.f281:=⟨Tryz.func281,by kernel_rfl,by kernel_rfl,by kernel_rfl⟩
theorem eQB:pV Tryz.prog 310 Tryz.f310:=⟨Tryz.func310,by kernel_rfl,by kernel_rfl,by kernel_rfl⟩
theorem bQB:pV Tryz.prog 324 Tryz.f324:=⟨Tryz.func324,by kernel_rfl,by kernel_rfl,by kernel_rfl⟩
theorem eQz:pV Tryz.prog 325 Tryz.f325:=⟨Tryz.func325,by kernel_rfl,by kernel_rfl,by kernel_rfl⟩
theorem bQA:pV Tryz.prog 326 Tryz.f326:=⟨Tryz.func326,by kernel_rfl,by kernel_rfl,by kernel_rfl⟩
theorem eQy:pV Tryz.prog 327 Tryz.f327:=⟨Tryz.func327,by kernel_rfl,by kernel_rfl,by kernel_rfl⟩
theorem eQx:pV Tryz.prog 329 Tryz.f329:=⟨Tryz.func329,by kernel_rfl,by kernel_rfl,by kernel_rfl⟩
theorem eQw:pV Tryz.prog 330 Tryz.f330:=⟨Tryz.func330,by kernel_rfl,by kernel_rfl,by kernel_rfl⟩
structure Up(h:ad)(b o:Nat)(x:Value)(h':ad):Prop where
 out:∃c e,h b=some (.cells c e (0,0))/\h'=bU h b (.cells (c.setIfInBounds o x) e (0,0))
theorem Up.lXE{b:Nat}{v:Value}(u:Up h b o x h')(q:vr h ⟨b,o,none⟩ v):vr h' ⟨b,o,none⟩ x:=by obtain⟨c,e,d,rfl⟩:=u.out;obtain⟨-,c',e',a,f⟩:=q.out;simp only at a;rw[d]at a;cases a;refine⟨rfl,_,e,ae,?_⟩;have:=(mXD.1 f).1;simp only at this |-;rw[mKA this]
theorem Up.other{b p:Nat}{v:Value}(u:Up h b o x h')(g:p≠o)(q:vr h ⟨b,p,none⟩ v):vr h' ⟨b,p,none⟩ v:=by obtain⟨c,e,f,rfl⟩:=u.out;obtain⟨-,c',e',a,d⟩:=q.out;simp only at a;rw[f]at a;cases a;refine⟨rfl,_,e,ae,?_⟩;simp only at d |-;rw[mKy (Ne.symm g)];exact d
theorem bKL{b:Nat}(q:vr h ⟨b,o,none⟩ (.int .i32 0)):Ct 308 [.pointer (some ⟨b,o,none⟩)] h (λv h'=>v=.tuple #[]/\Up h b o (.int .i32 1) h'):=by refine mQx fKz Tryz.func308 λA g=>?_;cbv;refine zE bQB .disable (by kernel_rfl) ?_;cbv;rw[ai A];refine cXI eQz (by kernel_rfl) q (λc e f a d=>?_);have u:Up h b o (.int .i32 1) f:=⟨c,e,a,d⟩;cbv;refine zE bQA .enable (by kernel_rfl) ?_;cbv;refine Hc (t:=124) (by kernel_rfl) (by kernel_rfl) (by kernel_rfl) (u.lXE q) ?_;cbv;refine Is eQy .acquire (by kernel_rfl) ?_;cbv;exact⟨rfl,u⟩
theorem VN{b:Nat}(q:vr h ⟨b,o,none⟩ (.int .i32 0)):Ct 282 [.pointer (some ⟨b,o,none⟩)] h (λv h'=>v=.tuple #[]/\Up h b o (.int .i32 1) h'):=by refine mQx fKR Tryz.func282 λA c=>?_;cbv;rw[ai A];refine(bKL q).mono (λv a hR=>?_);obtain⟨rfl,u⟩:=hR;cbv;exact⟨rfl,u⟩
theorem Xy{b:Nat}(q:vr h ⟨b,o,none⟩ (.int .i32 1)):Ct 309 [.pointer (some ⟨b,o,none⟩)] h (λv h'=>v=.tuple #[]/\Up h b o (.int .i32 0) h'):=by
 refine mQx fKy Tryz.func309 λA n=>?_;cbv;rw[ai A];obtain⟨-,d,f,k,l⟩:=q.out;refine⟨[.int .i32 1],⟨rfl,rfl,d,f,(0,0),k,λi p=>?_⟩,?_⟩
 .have:i=0:=by omega
  subst this;exact l
 cbv;refine Hc (t:=124) (by kernel_rfl) (by kernel_rfl) (by kernel_rfl) q ?_;cbv;refine Is eQx .releaseMerge (by kernel_rfl) ?_;cbv;refine zE bQB .disable (by kernel_rfl) ?_;cbv;rw[ai A];refine WG eQw (by kernel_rfl) q (λc e m g j=>?_);have u:Up h b o (.int .i32 0) m:=⟨c,e,g,j⟩;cbv;refine bh (λa=>?_) (λa=>?_)
 .rw[n.aI]at a;cases a
 cbv;refine zE bQA .enable (by kernel_rfl) ?_;cbv;exact⟨rfl,u⟩
theorem GA{b:Nat}(q:vr h ⟨b,o,none⟩ (.int .i32 1)):gZt 283 [.pointer (some ⟨b,o,none⟩)] h (λv h'=>v=.tuple #[]/\Up h b o (.int .i32 0) h'):=by obtain⟨A,c⟩:=Ar.ex;refine zg A (ax fKQ.aK fKQ.bF) Tryz.func283 rfl (by kernel_rfl) ?_;cbv;rw[ai A];refine(Xy q).mono (λv a hR=>?_);obtain⟨rfl,u⟩:=hR;cbv;exact⟨rfl,u⟩
theorem yO{b:Nat}{x:Int}(q:vr h ⟨b,o,none⟩ (.int .u32 x)):Ct 247 [.pointer (some ⟨b,o,none⟩)] h (λv h'=>∃t,v=.bool t/\t=decide (x≠0)/\h'=h):=by refine mQx gQp Tryz.func247 λA a=>?_;cbv;rw[ai A];refine bQz eQD (by kernel_rfl) q ?_;cbv;refine⟨_,rfl,?_,rfl⟩;rw[a.aI];simp[aI];rfl
theorem lXK(h:ad):Ct 311 [.bool true] h (λv h'=>v=.int .u32 1/\h'=h):=by refine mQx fKw Tryz.func311 λA a=>?_;cbv
theorem JY{b:Nat}(q:vr h ⟨b,o,none⟩ x):gZt 284 [.pointer (some ⟨b,o,none⟩),.bool true] h (λv h'=>v=.tuple #[]/\Up h b o (.int .u32 1) h'):=by obtain⟨A,g⟩:=Ar.ex;refine zg A (ax fKP.aK fKP.bF) Tryz.func284 rfl (by kernel_rfl) ?_;cbv;refine(lXK h).mono (λv a hR=>?_);obtain⟨rfl,rfl⟩:=hR;cbv;rw[ai A];refine Zq eQB (by kernel_rfl) q (λc e a d f=>?_);have u:Up _ b o (.int .u32 1) a:=⟨c,e,d,f⟩;cbv;exact⟨rfl,u⟩
theorem Sk{b:Nat}(q:vr h ⟨b,o,none⟩ (.int .u32 0))(n:vr h ⟨b,o+1,none⟩ (.int .i32 0))
 (e:∀f,Up h b (o+1) (.int .i32 1) f->Ct 198 [.pointer (some a1),.pointer (some a2)] f (λv a=>v=.tuple #[]/\vr a ⟨b,o,none⟩ (.int .u32 0)/\vr a ⟨b,o+1,none⟩ (.int .i32 1)/\Q a)):
 Ct 248 [.pointer (some ⟨b,o,none⟩),.func (.func 198) #[] #[.pointer (some a1),.pointer (some a2)]] h (λv h'=>v=.tuple #[]/\∃a c,Q a/\Up a b o (.int .u32 1) c/\Up c b (o+1) (.int .i32 0) h'):=by
 obtain⟨A,l⟩:=Ar.ex;refine oZ A (ax gQo.aK gQo.bF) Tryz.func248 rfl (by kernel_rfl) ?_;cbv;rw[ai A];refine(VN n).mono (λv f hR=>?_);obtain⟨rfl,u⟩:=hR;have J:=u.other (by omega) q;cbv;rw[ai A];rw[ai A];refine(yO J).mono (λv a hR=>?_);obtain⟨t,rfl,g,rfl⟩:=hR;have g:t=false:=by rw[g];rfl
 subst g;cbv;rw[l.not];cbv;rw[ai A];refine(e _ u).mono (λv a hR=>?_);obtain⟨rfl,j,k,m⟩:=hR;cbv;refine(JY j).mono (λv c hR=>?_);obtain⟨-,d⟩:=hR;have E:=d.other (by omega) k;cbv;refine(GA E).mono (λv p hR=>?_);obtain⟨-,i⟩:=hR;cbv;exact⟨rfl,a,c,m,d,i⟩
theorem cXR{b:Nat}(q:vr h ⟨b,o,none⟩ (.int .u32 0))(i:vr h ⟨b,o+1,none⟩ (.int .i32 0))
 (e:∀d,Up h b (o+1) (.int .i32 1) d->Ct 198 [.pointer (some a1),.pointer (some a2)] d (λv a=>v=.tuple #[]/\vr a ⟨b,o,none⟩ (.int .u32 0)/\vr a ⟨b,o+1,none⟩ (.int .i32 1)/\Q a)):
 Ct 197 [.pointer (some ⟨b,o,none⟩),.func (.func 198) #[] #[.pointer (some a1),.pointer (some a2)]] h (λv h'=>v=.tuple #[]/\∃a f,Q a/\Up a b o (.int .u32 1) f/\Up f b (o+1) (.int .i32 0) h'):=by
 refine mQx cZU Tryz.func197 λA g=>?_;cbv;rw[ai A];refine(yO q).mono (λv a hR=>?_);obtain⟨t,rfl,c,rfl⟩:=hR;have c:t=false:=by rw[c];rfl
 subst c;cbv;rw[g.not];cbv;refine(Sk q i e).mono (λv a hR=>?_);obtain⟨rfl,hR⟩:=hR;cbv;exact⟨rfl,hR⟩
theorem bQM{b:Nat}(q:vr h ⟨b,o,none⟩ (.int .u32 1)):
 Ct 197 [.pointer (some ⟨b,o,none⟩),.func (.func 198) #[] #[.pointer (some a1),.pointer (some a2)]] h (λv h'=>v=.tuple #[]/\h'=h):=by
 refine mQx cZU Tryz.func197 λA c=>?_;cbv;rw[ai A];refine(yO q).mono (λv d hR=>?_);obtain⟨t,rfl,a,rfl⟩:=hR;have a:t=true:=by rw[a];rfl
 subst a;cbv;rw[c.not];cbv;exact⟨rfl,True.intro⟩
theorem OC{b:Nat}(q:vr h ⟨b,o,none⟩ (.int .u32 0))(n:vr h ⟨b,o+1,none⟩ (.int .i32 0))
 (e:∀f,Up h b (o+1) (.int .i32 1) f->Ct 225 [.pointer (some a1)] f (λv a=>v=.tuple #[]/\vr a ⟨b,o,none⟩ (.int .u32 0)/\vr a ⟨b,o+1,none⟩ (.int .i32 1)/\Q a)):
 Ct 248 [.pointer (some ⟨b,o,none⟩),.func (.func 225) #[.pointer (some a1)] #[]] h (λv h'=>v=.tuple #[]/\∃a c,Q a/\Up a b o (.int .u32 1) c/\Up c b (o+1) (.int .i32 0) h'):=by
 obtain⟨A,l⟩:=Ar.ex;refine oZ A (ax gQo.aK gQo.bF) Tryz.func248 rfl (by kernel_rfl) ?_;cbv;rw[ai A];refine(VN n).mono (λv f hR=>?_);obtain⟨rfl,u⟩:=hR;have J:=u.other (by omega) q;cbv;rw[ai A];rw[ai A];refine(yO J).mono (λv a hR=>?_);obtain⟨t,rfl,g,rfl⟩:=hR;have g:t=false:=by rw[g];rfl
 subst g;cbv;rw[l.not];cbv;rw[ai A];refine(e _ u).mono (λv a hR=>?_);obtain⟨rfl,j,k,m⟩:=hR;cbv;refine(JY j).mono (λv c hR=>?_);obtain⟨-,d⟩:=hR;have E:=d.other (by omega) k;cbv;refine(GA E).mono (λv p hR=>?_);obtain⟨-,i⟩:=hR;cbv;exact⟨rfl,a,c,m,d,i⟩
theorem bQL{b:Nat}(q:vr h ⟨b,o,none⟩ (.int .u32 0))(i:vr h ⟨b,o+1,none⟩ (.int .i32 0))
 (e:∀d,Up h b (o+1) (.int .i32 1) d->Ct 225 [.pointer (some a1)] d (λv a=>v=.tuple #[]/\vr a ⟨b,o,none⟩ (.int .u32 0)/\vr a ⟨b,o+1,none⟩ (.int .i32 1)/\Q a)):
 Ct 197 [.pointer (some ⟨b,o,none⟩),.func (.func 225) #[.pointer (some a1)] #[]] h (λv h'=>v=.tuple #[]/\∃a f,Q a/\Up a b o (.int .u32 1) f/\Up f b (o+1) (.int .i32 0) h'):=by
 refine mQx cZU Tryz.func197 λA g=>?_;cbv;rw[ai A];refine(yO q).mono (λv a hR=>?_);obtain⟨t,rfl,c,rfl⟩:=hR;have c:t=false:=by rw[c];rfl
 subst c;cbv;rw[g.not];cbv;refine(OC q i e).mono (λv a hR=>?_);obtain⟨rfl,hR⟩:=hR;cbv;exact⟨rfl,hR⟩
theorem Zu{b:Nat}(q:vr h ⟨b,o,none⟩ (.int .u32 1)):
 Ct 197 [.pointer (some ⟨b,o,none⟩),.func (.func 225) #[.pointer (some a1)] #[]] h (λv h'=>v=.tuple #[]/\h'=h):=by
 refine mQx cZU Tryz.func197 λA c=>?_;cbv;rw[ai A];refine(yO q).mono (λv d hR=>?_);obtain⟨t,rfl,a,rfl⟩:=hR;have a:t=true:=by rw[a];rfl
 subst a;cbv;rw[c.not];cbv;exact⟨rfl,True.intro⟩
theorem eQv{a b c:Nat}{x:Int}{t l e f:Nat}{s1 s2 s d o1 o2 o y:Value}(i:h a=some (.cells #[.int .i64 x] t (e,f)))(g:h b=some (.cells #[.pointer (some ⟨c,0,none⟩)] l (0,0)))
 (j:h c=some (.cells #[s1,s2,s,d,o1,o2,o,y] 130 (0,0))):
 Ct 198 [.pointer (some ⟨a,0,none⟩),.pointer (some ⟨b,0,none⟩)] h (λv h'=>v=.tuple #[]/\h'=bU h c (.cells #[s1,s2,s,d,o1,o2,o,.int .i64 x] 130 (0,0))):=by
 refine mQx cZT Tryz.func198 λA m=>?_;cbv;refine mQw g ?_;cbv;refine mQw i ?_;cbv;rw[ai A];refine ja j (by simp) (λh' k=>?_);cbv;exact⟨rfl,k⟩
theorem Up.exp{b e:Nat}(u:Up h b o x h')(g:h b=some (.cells (List.toArray c) e (0,0))):h'=bU h b (.cells (List.toArray (c.set o x)) e (0,0)):=by obtain⟨c',e',a,rfl⟩:=u.out;rw[g]at a;cases a;simp
theorem og{b e:Nat}(g:h b=some (.cells (List.toArray c) e (0,0)))(hx:c[o]? =some x):vr h ⟨b,o,none⟩ x:=⟨rfl,_,e,g,by simpa using hx⟩
theorem Nh{c t w j k:Nat}{T:List cW}{W:List (fJ×Bool)}{H M:List cg}{x:Int}(q:lA h c t w j k T W H M e)(ht:c≠t)(hw:c≠w):
 Ct 98 [.pointer (some ⟨c,0,none⟩),.int .i64 x] h (λv h'=>v=.tuple #[]/\Kp [c] h h'/\lA h' c t w j k T W H M (if e=0 then x else e)):=by
 obtain⟨F,I,s,K,y,u,L,z,o,C,ho,q1,q2,q3,q4,q5,q6⟩:=q.out;refine mQx jJS Tryz.func98 λA V=>?_;cbv;intro p U G N;cbv;intro i d b O;have l:Le h U:=by rw[N];exact Le.set G
 have a:Le U d:=by rw[O];exact Le.set b
 have S:d i=some (.cells #[.int .i64 x] 35 (0,0)):=by rw[O];exact ae
 have R:d p=some (.cells #[.pointer (some ⟨c,0,none⟩)] 112 (0,0)):=a _ _ (by rw[N];exact ae);have X:=q.mono (l.trans a);have g:=(l.trans a) _ _ C;have E:p≠c:=λe=>by rw[e,C]at G;cases G
 have Z:i≠c:=λe=>by rw[e,l _ _ C]at b;cases b
 cbv;refine mQw S ?_;cbv;refine bh (λf=>?_) (λf=>?_)
 .have hx:x≠0:=by intro e;rw[V.aI,e]at f;cases f
  clear f;cbv;refine mQw R ?_;cbv;rw[ai A];rcases ho with⟨rfl,rfl⟩|⟨rfl,he⟩
  .refine(cXR (a1:=⟨i,0,none⟩) (a2:=⟨p,0,none⟩) (Q:=λhq=>hq=bU d c (.cells (List.toArray [.slice (some ⟨t,0,none⟩) F j,.slice (some ⟨w,0,none⟩) I k,.slice s K y,.slice u L z,.int .u32 0,.int .i32 1,.int .u32 0,.int .i64 x]) 130 (0,0)))
    (og g rfl) (og g rfl) (λD hu=>?_)).mono (λv r hR=>?_)
   .have m:=hu.exp g;have J:D i=some (.cells #[.int .i64 x] 35 (0,0)):=by rw[m,aO Z];exact S
    have ou:D p=some (.cells #[.pointer (some ⟨c,0,none⟩)] 112 (0,0)):=by rw[m,aO E];exact R
    have P:D c=some (.cells (List.toArray [.slice (some ⟨t,0,none⟩) F j,.slice (some ⟨w,0,none⟩) I k,.slice s K y,.slice u L z,.int .u32 0,.int .i32 1,.int .u32 0,.int .i64 0]) 130 (0,0)):=by rw[m];exact ae
    refine(eQv J ou P).mono (λv r hR=>?_);obtain⟨rfl,rfl⟩:=hR;exact⟨rfl,og ae rfl,og ae rfl,by rw[m,oW]⟩
   obtain⟨rfl,h5,h6,rfl,u5,u6⟩:=hR;have B:=u5.exp ae;rw[oW]at B;have Y:=(congrFun B c).trans ae;have n:=u6.exp Y;rw[B,oW]at n;cbv;have kp:Kp [c] d r:=by rw[n];exact Kp.set (by simp)
   have lt:∀tys,130∉tys->bR tys d r:=λtys hn=>by rw[n];exact bR.set g hn
   refine⟨rfl,((l.trans a).kp _).trans kp,F,I,s,K,y,u,L,z,1,?_,.inr ⟨rfl,?_⟩,q1,?_,q3,?_,?_,?_⟩
   .rw[n];exact ae
   .exact hx
   .exact q2.mono (((l.trans a).t _).trans (lt _ (by decide)))
   .exact q4.mono (((l.trans a).t _).trans (lt _ (by decide)))
   .exact q5.mono (((l.trans a).t _).trans (lt _ (by decide)))
   exact q6.mono (((l.trans a).t _).trans (lt _ (by decide)))
  refine(bQM (a1:=⟨i,0,none⟩) (a2:=⟨p,0,none⟩) (og g rfl)).mono (λv r hR=>?_);obtain⟨rfl,rfl⟩:=hR;cbv;refine⟨rfl,(l.trans a).kp _,?_⟩;rw[if_neg he];exact X
 have hx:x=0:=by rw[V.aI]at f;simpa[aI]using f
 cbv;refine⟨rfl,(l.trans a).kp _,?_⟩;subst hx;have:(if e=0 then 0 else e)=e:=by split<;>simp_all
 rw[this];exact X
def dX:Sh ByteArray where
 n:=1
 R _ cs v:=cs=[.string v]
 len:=by rintro h cs x rfl;rfl
 one:=by rintro h cs x rfl;rfl
 tys:=[]
 mono:=λ_ q=>q
def jY:List ByteArray:=[⟨#[97,110,100]⟩,⟨#[98,101,103,105,110]⟩,⟨#[98,111,111,108]⟩,⟨#[98,121]⟩,⟨#[99,111,109,109,105,116]⟩,⟨#[99,111,117,110,116]⟩,⟨#[99,114,101,97,116,101]⟩,⟨#[100,101,108,101,116,101]⟩,⟨#[100,101,115,99]⟩,⟨#[100,114,111,112]⟩,⟨#[102,97,108,115,101]⟩,⟨#[102,114,111,109]⟩,⟨#[103,114,111,117,112]⟩,⟨#[105,110,115,101,114,116]⟩,⟨#[105,110,116]⟩,⟨#[105,110,116,111]⟩,⟨#[105,115]⟩,⟨#[106,111,105,110]⟩,⟨#[107,101,121]⟩,⟨#[108,105,109,105,116]⟩,⟨#[109,97,120]⟩,⟨#[109,105,110]⟩,⟨#[110,111,116]⟩,⟨#[110,117,108,108]⟩,⟨#[111,110]⟩,⟨#[111,110,108,121]⟩,⟨#[111,114]⟩,⟨#[111,114,100,101,114]⟩,⟨#[112,114,105,109,97,114,121]⟩,⟨#[114,111,108,108,98,97,99,107]⟩,⟨#[115,97,118,101,112,111,105,110,116]⟩,⟨#[115,101,108,101,99,116]⟩,⟨#[115,101,116]⟩,⟨#[115,117,109]⟩,⟨#[116,97,98,108,101]⟩,⟨#[116,101,120,116]⟩,⟨#[116,111]⟩,⟨#[116,114,117,101]⟩,⟨#[117,112,100,97,116,101]⟩,⟨#[118,97,108,117,101,115]⟩,⟨#[119,104,101,114,101]⟩]
theorem Pu:jY.Nodup:=by decide
theorem bKS(h:ad):Ct 262 [] h (λv h'=>Le h h'/\∃c,v=.slice (some ⟨c,0,none⟩) 41 41/\Sl 9 dX h' v jY):=by
 refine mQx lZf Tryz.func262 λA d=>?_;cbv;intro n a b e;have g:a n=some (.cells (List.toArray (jY.map Value.string)) 9 (0,0)):=by rw[e];exact ae
 have r:Sx.Rows dX a (jY.map Value.string) 0 jY:=by refine⟨by decide,λi x hx=>?_⟩;have P:=(mQB.1 hx).1;show List.take 1 (List.drop (0+i*1) _)=_;rw[mXj,mZM,mQJ (by simpa using P)];rw[mQB]at hx;simp[hx.2]
 have s:Sl 9 dX a (.slice (some ⟨n,0,none⟩) 41 41) jY:=Sl.fresh (xs:=jY) g r (by decide) (by decide);have l:Le h a:=by rw[e];exact Le.set b
 clear g r e;cbv;exact⟨l,n,rfl,s⟩
theorem dXm:Tryz.prog.underlying 239=some (.map 9 4):=by kernel_rfl
theorem u9:Tryz.prog.underlying 9=some .string:=by kernel_rfl
def DL(l:List ByteArray):List (Value×Value):=l.map λw=>(.string w,.bool true)
theorem Kp.new{bs:List Nat}{a c:ad}{m:Nat}(x:Kp bs h a)(g:h m=none)(y:Kp (m::bs) a c):Kp bs h c:=λb o q d=>
 y b o (x b o q d) (by
  intro f;rcases mQI.1 f with e|e
  .rw[e,g]at q;cases q
  exact d e)
theorem bKn{sp:Nat}{o1 o2 o V:Value}(Z:h sp=some (.cells #[o1,o2,o,V] 241 (0,0))):
 Ct 225 [.pointer (some ⟨sp,0,none⟩)] h (λv h'=>v=.tuple #[]/\Kp [sp] h h'/\∃m,h m=none/\h' sp=some (.cells #[o1,o2,o,.map (some m)] 241 (0,0))/\Mp h' m .string (DL jY)):=by
 refine mQx gQD Tryz.func225 λA hA=>?_;cbv;intro m f a s;have F:Le h f:=by rw[s];exact Le.set a
 have r:m≠sp:=λe=>by rw[e,Z]at a;cases a
 have J:Mp f m .string []:=Mp.new (by rw[s];exact ae);cbv;rw[ai A];refine ja (F _ _ Z) (by simp) (λk t=>?_);have D:Kp [sp] f k:=by rw[t];exact Kp.set (by simp)
 have H:k sp=some (.cells #[o1,o2,o,.map (some m)] 241 (0,0)):=by rw[t];exact ae
 have S:=J.kp D (by simpa using r);cbv;refine(bKS k).mono (λv M hR=>?_);obtain⟨q,X,rfl,R⟩:=hR;have L:=S.kp (q.kp []) (by simp);have U:Kp [sp] h M:=((F.kp _).trans D).trans (q.kp _);have I:=q _ _ H;have l:jY.length=41:=rfl;cbv;refine aX.go (G:=Int) (λz=>[(10,.v (.int .i64 z))]) (λ_=>[]) (λn z h'=>∃i:Nat,aS z i/\n=41-i/\i<=41/\Kp [sp] h h'/\h' sp=some (.cells #[o1,o2,o,.map (some m)] 241 (0,0))/\Mp h' m .string (DL (jY.take i))/\Sl 9 dX h' (.slice (some ⟨X,0,none⟩) 41 41) jY) 41 0 (by constructor<;>cbv) ⟨0,⟨rfl⟩,rfl,by decide,U,I,L,R⟩ ?_
 intro n z h' N;cbv;obtain⟨i,b,hn,hi,C,g,Q,K⟩:=N;refine bh (λc=>?_) (λc=>?_)
 .have P:=b.lt (A:=A) (len:=41) c;clear c;cbv;obtain⟨x,hx⟩:=aE (xs:=jY) (i:=i) (by rw[l];exact P);refine⟨⟨rfl,b.ix P⟩,?_⟩;cbv;refine K.load hx b.eq (λcs y=>?_);have y:cs=[.string x]:=y;subst y;cbv;rw[ai A];refine mQw g ?_;cbv;refine vz dXm u9 Q (key:=.string x) True.intro ?_ (λh4 Y E t4=>?_)
  .intro p O e;obtain⟨w,T,rfl⟩:=mQW.1 O;cases e;obtain⟨j,d⟩:=mXh T;rw[mXl]at d;split at d
   .rename_i W;have u:=mQB.1 d;have B:=mQB.1 hx;have:=mQZ.1 Pu j i u.1 B.1 W;rw[u.2,B.2]at this;exact this rfl
   cases d
  cbv;refine⟨41-(i+1),_,by omega,by constructor<;>cbv,i+1,b.succ (A:=A),rfl,by omega,Kp.new C a (E.sub (by simp)),E _ _ g (by simpa using λe=>r (Eq.symm e)),?_,K.mono (t4 _)⟩
  rw[mXt,hx];simpa[DL]using Y
 have lN:=b.ge (A:=A) (len:=41) c;cbv;have:i=41:=by omega
 subst this;exact⟨rfl,C,m,a,g,Q⟩
end Go.S
